/- The framework, part 1: a checked interpreter of the model's code over abstract states; no claim is made here. -/
import Derived.Calls
import Derived.Still
import Derived.Laws.World
import Derived.Laws.AppendOwn
import Derived.RowKit3
import Derived.Deep.MidRow
import Derived.Laws.StructEq
import Derived.Lib.ConvBytes
import Derived.Laws.BytesArg
import Derived.Tactics
import Derived.OrdersHeld
import Derived.ChangeArms
import Derived.ChangeOld
import Derived.DataReads
import Derived.Below
import Derived.Shelf.Spec.SlicesInsertGrow
import Derived.Shelf.Slices.Delete
set_option linter.unusedVariables false
set_option linter.unusedSimpArgs false
set_option linter.unusedSectionVars false
abbrev ADQ:Type:=Int × Int × Bool × List UInt8 × Unit
abbrev AH4:Type:=List UInt8 × List Int × Bool × Unit
abbrev ADV:Type:=Int × Int × List UInt8 × Unit
abbrev AEt:Type:=List Int × Bool × Int × Unit
abbrev AH5:Type:=Int × List UInt8 × Bool × Unit
abbrev AAZ:Type:=List Int
abbrev AEH:Type:=Unit × Int × Unit × Unit × Unit × Int × Unit × Unit × Unit × Unit × Bool × Unit
abbrev AC_:Type:=List Int × Int × Int × Unit
abbrev ABd:Type:=List Int × Int × Unit
abbrev ACR:Type:=Bool × Unit
abbrev AH7:Type:=Int × Bool × Int × Int × Bool × List UInt8 × Unit
abbrev AHf:Type:=Int × Int × Unit × Unit × Bool × Unit × Unit
abbrev AC3:Type:=Int × Int × Int × Int × List UInt8 × Unit
abbrev AH6:Type:=Unit × Unit × Int × Unit
abbrev ACx:Type:=Int × Unit
abbrev AC7:Type:=List Int × Unit
abbrev AB1:Type:=List Nat
abbrev AGc:Type:=Unit × Int × Unit
abbrev AC8:Type:=Unit × Unit
abbrev AGe:Type:=Int × Unit × Unit
abbrev AHy:Type:=Int × Int × Unit × Unit
abbrev ADF:Type:=Nat × Nat
abbrev AH8:Type:=List UInt8 × Bool × Unit
abbrev AF1:Type:=Nat × List Nat
abbrev ACu:Type:=List UInt8
abbrev ACp:Type:=Int × Int × List Int × List ADQ × Bool × List AAZ × Unit
abbrev AC1:Type:=List ADQ × List ADQ × Int × Unit
abbrev AC2:Type:=Int × Int × List ADV × Unit
abbrev ACy:Type:=Int × List AH4 × Unit
abbrev ABV:Type:=List ADQ
abbrev ABK:Type:=List AEt
abbrev ABW:Type:=List AH5
abbrev ACv:Type:=List AEt × Int × Unit
abbrev AH9:Type:=AEH × Int × Unit
abbrev ACs:Type:=List AH4
abbrev ADN:Type:=AC_ × Unit
abbrev AC0:Type:=List ADV
abbrev AH_:Type:=AH6 × Bool × Unit
abbrev AIA:Type:=AHf × Bool × Unit
abbrev AEg:Type:=AC_ × List Int × Unit
abbrev ADU:Type:=AGc × Unit
abbrev AEA:Type:=AHy × Unit
abbrev AEP:Type:=AH6 × Unit
abbrev AD0:Type:=AEH × Unit
abbrev AIC:Type:=AGe × Bool × Unit
abbrev AIB:Type:=AGc × Bool × Unit
abbrev AFT:Type:=AC3 × Unit
abbrev ADd:Type:=AHf × Unit
abbrev AHz:Type:=AEH × Unit × AEH × Unit
abbrev ADS:Type:=List AH7
abbrev AGQ:Type:=AH8 × Unit
abbrev AFa:Type:=AGe × Unit
abbrev AHF:Type:=ACR × Unit
abbrev AGg:Type:=ADQ × Unit
abbrev AHm:Type:=ADQ × Bool × Unit
abbrev ABT:Type:=List AC2
abbrev ABU:Type:=List AC1
abbrev ABX:Type:=List ACy
abbrev ABZ:Type:=List ACp
abbrev ACg:Type:=List Int × Int × List AC1 × List Int × List AEt × Int × List ACy × List ACp × List AC2 × List AH5 × Bool × Unit
abbrev ADt:Type:=List Int × ABV × List AAZ × Unit
abbrev ADK:Type:=AH9 × Unit
abbrev ADY:Type:=ABV × ABV × Unit
abbrev ADX:Type:=AH_ × Unit
abbrev AEb:Type:=AIA × Unit
abbrev AH3:Type:=AC_ × List Int × ABV × List AAZ × Unit
abbrev AFD:Type:=AC0 × Unit
abbrev AFk:Type:=ACs × Unit
abbrev AFY:Type:=ABK × Unit
abbrev AH0:Type:=AC_ × ABV × ABV × Unit
abbrev AHE:Type:=AIB × Unit
abbrev AHD:Type:=AIC × Unit
abbrev AGl:Type:=ABV × Unit
abbrev AH2:Type:=AC_ × ACs × Unit
abbrev AH1:Type:=AC_ × ABK × Unit
abbrev ADR:Type:=List Int × ABU × List Int × ABK × ABX × ABZ × ABT × ABW × Unit
abbrev AHr:Type:=List Int × ABU × Unit × ABK × ABX × ABZ × ABT × ABW × List Int × Unit
abbrev AID:=@Bool.eq_false_or_eq_true
abbrev AIE:=@List.getElem?_eq_some_iff
abbrev AIF:=@if_pos
abbrev AIH:=@List.getElem?_eq_getElem
abbrev AII:=@Option.bind_some
abbrev AIK:=@Option.some.injEq
abbrev AIU:=@if_neg
abbrev AIX:=@Option.map_eq_some_iff
abbrev AIg:=@List.append_assoc
abbrev AIm:=@Option.bind_eq_some_iff
abbrev AIo:=@Bool.and_eq_true
abbrev AI5:=@cond_false
abbrev AJI:=@List.getElem?_append_left
abbrev AJJ:=@decide_eq_true_eq
abbrev AJN:=@Bool.not_true
abbrev AJQ:=@List.drop_eq_nil_of_le
abbrev AJn:=@Int.toNat_natCast
abbrev AJo:=@List.getElem?_set_ne
abbrev AJp:=@Bool.false_eq_true
abbrev AJq:=@List.nodup_append
abbrev AJ0:=@List.length_cons
abbrev AJ6:=@List.mem_append
abbrev AKE:=@List.length_append
abbrev AKM:=@cond_true
abbrev AKO:=@decide_eq_false
abbrev AKT:=@Bool.true_and
abbrev AKW:=@List.getElem?_set_self
abbrev AKb:=@List.append_nil
abbrev AKc:=@decide_eq_true
abbrev AKh:=@List.mem_of_getElem?
abbrev AKi:=@List.getElem?_append_right
abbrev AKo:=@Sigma.mk.injEq
abbrev AKp:=@List.getElem_mem
abbrev AKs:=@List.Perm.append_right
abbrev AKu:=@List.length_nil
abbrev AKv:=@List.mem_cons
abbrev AK2:=@List.eq_nil_of_length_eq_zero
abbrev AK3:=@Bool.not_eq_false'
abbrev AK4:=@List.mem_singleton
abbrev AK5:=@Bool.not_eq_true
abbrev AK6:=@List.Perm.append_left
abbrev AK7:=@List.perm_append_comm
abbrev AK8:=@List.drop_zero
abbrev AK9:=@List.mem_flatten
abbrev AK_:=@List.cons.injEq
abbrev ALA:=@eq_of_heq
abbrev ALB:=@List.nil_append
abbrev ALC:=@List.getElem?_map
abbrev ALD:=@Prod.mk.injEq
abbrev ALE:=@Nat.le_refl
abbrev ALF:=@List.mem_or_eq_of_mem_set
abbrev ALG:=@if_false
abbrev ALH:=@Nat.lt_of_lt_of_le
abbrev ALI:=@Bool.false_or
abbrev ALJ:=@List.singleton_append
abbrev ALK:=@Int.tdiv_eq_ediv_of_nonneg
abbrev ALL:=@Nat.mul_le_mul_right
abbrev ALM:=@Nat.le_trans
abbrev ALN:=@Bool.not_false
abbrev ALO:=@List.flatten_cons
abbrev ALP:=@Option.bind_assoc
abbrev ALQ:=@List.all_eq_true
abbrev ALR:=@List.pairwise_cons
abbrev ALg:=@List.contains_eq_mem
abbrev ALn:=@Bool.or_eq_true
abbrev ALo:=@Bool.and_true
abbrev ALp:=@List.length_filter_le
abbrev ALr:=@List.getElem_of_mem
abbrev ALt:=@beq_eq_false_iff_ne
abbrev ALx:=@List.eq_of_mem_replicate
abbrev ALz:=@List.getElem?_set
abbrev AL0:=@and_true
abbrev AL1:=@Nat.zero_add
abbrev AL3:=@beq_iff_eq
abbrev AL4:=@Nat.add_mul
abbrev AL8:=@List.flatten_append
abbrev AMF:=@if_true
abbrev AMK:=@List.length_set
abbrev AMR:=@List.cons_append
abbrev AMX:=@decide_eq_false_iff_not
abbrev AMY:=@Option.isSome_none
abbrev AMZ:=@Bool.not_eq_true'
abbrev AMc:=@List.getElem?_eq_none
abbrev AMd:=@List.length_replicate
abbrev AM1:=@Option.getD_some
abbrev AM4:=@Int.tmod_eq_emod_of_nonneg
abbrev AM5:=@List.take_of_length_le
abbrev AM7:=@Bool.false_and
abbrev ANB:=@Nat.add_zero
abbrev ANC:=@List.mem_map
abbrev ANJ:=@Option.isSome_some
abbrev ANM:=@List.mem_cons_of_mem
abbrev ANP:=@List.all_cons
abbrev ANQ:=@List.length_eq_zero_iff
abbrev ANV:=@Bool.eq_false_iff
abbrev ANd:=@Array.getD_eq_getD_getElem?
abbrev ANm:=@List.nodup_cons
abbrev ANn:=@List.getD_eq_getElem?_getD
abbrev ANp:=@List.filter_cons
abbrev ANq:=@List.getElem?_drop
abbrev ANs:=@List.set_cons_zero
abbrev ANt:=@List.pairwise_iff_getElem
abbrev ANu:=@List.take_succ_eq_append_getElem
abbrev ANv:=@List.ext_getElem?
abbrev ANw:=@Nat.le_of_lt
abbrev ANx:=@List.map_congr_left
abbrev ANz:=@Nat.add_assoc
abbrev AN0:=@List.map_cons
abbrev AN1:=@List.replicate_succ
abbrev AN2:=@List.getElem?_replicate
abbrev AN3:=@Array.length_toList
abbrev AN4:=@List.drop_length
abbrev AN5:=@Option.some.inj
abbrev AN6:=@List.map_map
abbrev AN8:=@List.length_map
abbrev AN9:=@List.mem_filter
abbrev AOA:=@List.set_append_right
abbrev AOB:=@List.pairwise_map
abbrev AOC:=@List.exists_cons_of_length_eq_add_one
abbrev AOD:=@List.flatten_nil
abbrev AOE:=@List.set_set
abbrev AOF:=@Nat.sub_self
abbrev AOG:=@Nat.succ_mul
abbrev AOH:=@Nat.one_mul
abbrev AOI:=@Decidable.not_not
abbrev AOJ:=@List.contains_iff_mem
abbrev AOK:=@List.take_append_drop
abbrev AOL:=@Nat.mod_eq_of_lt
abbrev AOM:=@List.mem_of_mem_take
abbrev AON:=@List.mem_of_mem_drop
abbrev AOO:=@dite_true
abbrev AOP:=@List.length_pos_iff
abbrev AOQ:=@List.perm_iff_count
abbrev AOR:=@List.map_nil
abbrev AOS:=@List.Perm.refl
abbrev AOT:=@List.mapM_cons
abbrev AOU:=@List.take_zero
section
namespace Go.Fw
inductive Ty where
 |int (k:IntKind)|bool|str|sl (r:Ty)|unit|cons (c r:Ty)
 deriving DecidableEq
@[reducible] def Ty.D:Ty→Type
 | .int _=>Int
 | .bool=>Bool
 | .str=>List UInt8
 | .sl r=>List r.D
 | .unit=>Unit
 | .cons c r=>c.D×r.D
def Ty.n:Ty→Nat
 | .unit=>0
 | .cons _ r=>r.n+1
 |_=>1
def Ty.z:(t:Ty)→t.D
 | .int _=>(0:Int)
 | .bool=>false
 | .str=>[]
 | .sl _=>[]
 | .unit=>()
 | .cons c r=>(c.z,r.z)
def Ty.flat:Ty→Bool
 | .sl _=>false
 | .cons c r=>c.flat&&r.flat
 |_=>true
def Ty.scalar:Ty→Bool
 | .int _| .bool| .str=>true
 |_=>false
structure dK where
 i:Nat
 sz:Nat
 j:Nat
inductive AV where
 |v (t:Ty) (x:t.D)
 |sl (s:Bool) (r:Ty) (x:List r.D)
 |nil
 |ref (b:Nat) (p:List dK)
 |XT (b:Nat) (p:List dK) (off n:Nat)
 |GA (b j:Nat)
 |HW (b:Nat) (p:List dK) (i sz j:Nat)
 |K4 (s:Bool) (r:Ty) (x:r.D) (j:Nat)
 |fn (f:Nat) (Hg:AB1)
 |kJ (f:Nat) (rows:List ((r:Ty)×r.D))
 |oX
 |undef
def AV.known:AV→Bool
 | .undef=>false
 |_=>true
inductive XV where
 |c (x:AV)
 |agg (l:List AV)
 |Kv (l:List (AV ⊕ List AV))
inductive Bx where
 |mem (cs:List AV)
 |sl (d:Nat) (r:Ty) (rows:List r.D)
 |dead
structure St where
 tm:List XV
 bx:List Bx
def Am:(r:Ty)→(j:Nat)→r.D→Option ((t:Ty)×t.D)
 | .cons c _,0,x=>some ⟨c,x.1⟩
 | .cons _ r,j+1,x=>Am r j x.2
 | .unit,_,_=>none
 | .int k,0,x=>some ⟨.int k,x⟩
 | .bool,0,x=>some ⟨.bool,x⟩
 | .str,0,x=>some ⟨.str,x⟩
 | .sl r,0,x=>some ⟨.sl r,x⟩
 |_,_+1,_=>none
def gl{a b:Ty}(h:a=b)(x:a.D):b.D:=h▸x
def Cq:(r:Ty)→(j:Nat)→r.D→(t:Ty)→t.D→Option r.D
 | .cons c _,0,x,t,y=>if h:t=c then some (gl h y,x.2)else none
 | .cons _ r,j+1,x,t,y=>(Cq r j x.2 t y).map fun z=>(x.1,z)
 | .unit,_,_,_,_=>none
 | .int k,0,_,t,y=>if h:t= .int k then some (gl h y)else none
 | .bool,0,_,t,y=>if h:t= .bool then some (gl h y)else none
 | .str,0,_,t,y=>if h:t= .str then some (gl h y)else none
 | .sl r,0,_,t,y=>if h:t= .sl r then some (gl h y)else none
 |_,_+1,_,_,_=>none
def rowAt(r:Ty)(rows:List r.D)(i:Nat):r.D:=rows.getD i r.z
def E6:(r:Ty)→List r.D→List dK→Option ((q:Ty)×List q.D)
 |r,rows,[]=>some ⟨r,rows⟩
 |r,rows,s::p=>
  match Am r s.j (rowAt r rows s.i)with
  |some ⟨.sl q,x⟩=>E6 q x p
  |_=>none
def fb:(r:Ty)→List r.D→List dK→(q:Ty)→List q.D→Option (List r.D)
 |r,_,[],q,y=>if h:q=r then some (gl (congrArg Ty.sl h) y)else none
 |r,rows,s::p,q,y=>
  match Am r s.j (rowAt r rows s.i)with
  |some ⟨.sl r',x⟩=>(fb r' x p q y).bind fun x' =>(Cq r s.j (rowAt r rows s.i) (.sl r') x').map fun row=>rows.set s.i row
  |_=>none
inductive TD where
 |int (k:IntKind)|bool|str|sl (e:Nat)|st (fs:List ADF)|ptr (e:Nat)|other
structure TI where
 size:Nat
 bytes:Nat
 desc:TD
 row:Option Ty
abbrev Hq:=List (Nat×TI)
def Hq.get:Hq→Nat→Option TI
 |[],_=>none
 |(u,i)::l,t=>if u=t then some i else Hq.get l t
def TD.agg:TD→Bool
 | .st _=>true
 |_=>false
def Hq.aI(T:Hq)(t:Nat):Option Ty:=
 match T.get t with
 |some ti=>ti.row
 |none=>none
def pY:Ty→AV
 | .int k=> .v (.int k) (0:Int)
 | .bool=> .v .bool false
 | .str=> .v .str []
 | .sl _=> .nil
 |_=> .undef
def WL:Ty→List AV
 | .cons c r=>pY c::WL r
 | .unit=>[]
 |t=>[pY t]
def fh:Value→AV
 | .int k n=> .v (.int k) n
 | .bool b=> .v .bool b
 | .string s=> .v .str s.data.toList
 | .slice none 0 0=> .nil
 | .pointer none=> .oX
 |_=> .undef
def ofValue:Value→XV
 | .agg cs=> .agg (cs.toList.map fh)
 |v=> .c (fh v)
def St.ev(σ:St):Operand→XV
 | .tmp t=>σ.tm.getD t (.c .undef)
 | .const v=>ofValue v
 | .global _=> .c .undef
 | .func f=> .c (.fn f [])
def St.put(σ:St)(dst:Option Tmp)(x:XV):St:=
 match dst with
 |some d=>{ σ with tm:=σ.tm.set d x }
 |none=>σ
def XV.cells:XV→List AV
 | .c x=>[x]
 | .agg l=>l
 | .Kv _=>[]
def NR{β:Ty→Type}(a b:Ty)(x:β a):Option (β b):=if h:a=b then some (h▸x)else none
def KP(bx:List Bx):AV→Option ((r:Ty)×List r.D)
 | .sl _ r x=>some ⟨r,x⟩
 | .ref b p=>
  match bx[b]? with
  |some (.sl _ r rows)=>E6 r rows p
  |_=>none
 | .XT b p off n=>
  match bx[b]? with
  |some (.sl _ r rows)=>(E6 r rows p).map fun q=>⟨q.1,(q.2.drop off).take n⟩
  |_=>none
 |_=>none
def J4(bx:List Bx)(t:Ty)(x:AV):Option t.D:=
 match x with
 | .v u y=>NR (β:=Ty.D) u t y
 | .nil=>match t with
  | .sl _=>some []
  |_=>none
 |x=>match t with
  | .sl r=>(KP bx x).bind fun q=>NR (β:=fun r=>List r.D) q.1 r q.2
  |_=>none
def GG(bx:List Bx):(r:Ty)→List AV→Option r.D
 | .unit,[]=>some ()
 | .cons c r,x::l=>(J4 bx c x).bind fun a=>(GG bx r l).map fun b=>(a,b)
 |_,_=>none
def lenOf(bx:List Bx):AV→Option Nat
 | .nil=>some 0
 | .sl _ _ x=>some x.length
 | .ref b p=>
  match bx[b]? with
  |some (.sl _ r rows)=>(E6 r rows p).map fun q=>q.2.length
  |_=>none
 | .XT b _ _ n=>
  match bx[b]? with
  |some (.sl _ _ _)=>some n
  |_=>none
 |_=>none
inductive AP where
 |v (t:Ty)
 |sl (s:Bool) (r:Ty)
 |nil
 |ref (i:Nat)
 |ptr (i j:Nat)
 |jX (r:Ty)
 |fn (f:Nat) (Hg:AB1)
 |kJ (f:Nat) (rs:List Ty)
 |any
 |cS (i sz:Nat)
inductive XP where
 |c (p:AP)
 |agg (l:List AP)
 |row (r:Ty)
 |Kv (l:List (AP ⊕ List AP))
inductive BP where
 |mem (l:List AP)
 |sl (d:Nat) (r:Ty)
 |gone
structure B3 where
 C5:List (Nat×XP)
 E5:List BP
@[reducible] def VM:List Ty→Type
 |[]=>Unit
 |r::l=>r.D×VM l
def VM.mk:(l:List Ty)→VM l→List ((r:Ty)×r.D)
 |[],_=>[]
 |r::l,x=>⟨r,x.1⟩::VM.mk l x.2
@[reducible] def AP.V:AP→Type
 | .kJ _ rs=>VM rs
 | .v t=>t.D
 | .sl _ r=>List r.D
 | .jX r=>r.D
 | .cS _ _=>Nat×Nat
 |_=>Unit
@[reducible] def Tu.V:List AP→Type
 |[]=>Unit
 |p::l=>p.V×Tu.V l
@[reducible] def UW.V:List (AP ⊕ List AP)→Type
 |[]=>Unit
 | .inl p::l=>p.V×UW.V l
 | .inr q::l=>Tu.V q×UW.V l
@[reducible] def XP.V:XP→Type
 | .c p=>p.V
 | .agg l=>Tu.V l
 | .row r=>r.D
 | .Kv l=>UW.V l
@[reducible] def BP.V:BP→Type
 | .mem l=>Tu.V l
 | .sl _ r=>List r.D
 | .gone=>Unit
@[reducible] def E7.V:List (Nat×XP)→Type
 |[]=>Unit
 |(_,p)::l=>p.V×E7.V l
@[reducible] def G_.V:List BP→Type
 |[]=>Unit
 |p::l=>p.V×G_.V l
@[reducible] def B3.V (s:B3):Type:=E7.V s.C5×G_.V s.E5
def AP.mk(m:Nat→Nat):(p:AP)→p.V→AV
 | .v t,x=> .v t x
 | .sl s r,x=> .sl s r x
 | .nil,_=> .nil
 | .ref i,_=> .ref (m i) []
 | .ptr i j,_=> .GA (m i) j
 | .jX r,x=> .K4 false r x 0
 | .fn f Hg,_=> .fn f (Hg.map m)
 | .kJ f rs,x=> .kJ f (VM.mk rs x)
 | .any,_=> .undef
 | .cS i sz,k=> .ref (m i) [⟨k.1,sz,k.2⟩]
def Tu.mk(m:Nat→Nat):(l:List AP)→Tu.V l→List AV
 |[],_=>[]
 |p::l,x=>p.mk m x.1::Tu.mk m l x.2
def fR:(r:Ty)→r.D→List AV
 | .unit,_=>[]
 | .cons c r,x=>(match c,x.1 with
  | .sl q,y=>AV.sl false q y
  |c,y=> .v c y)::fR r x.2
 | .sl q,x=>[.sl false q x]
 | .int k,x=>[.v (.int k) x]
 | .bool,x=>[.v .bool x]
 | .str,x=>[.v .str x]
def UW.mk(m:Nat→Nat):(l:List (AP ⊕ List AP))→UW.V l→List (AV ⊕ List AV)
 |[],_=>[]
 | .inl p::l,x=> .inl (p.mk m x.1)::UW.mk m l x.2
 | .inr q::l,x=> .inr (Tu.mk m q x.1)::UW.mk m l x.2
def XP.mk(m:Nat→Nat):(p:XP)→p.V→XV
 | .c p,x=> .c (p.mk m x)
 | .agg l,x=> .agg (Tu.mk m l x)
 | .row r,x=> .agg (fR r x)
 | .Kv l,x=> .Kv (UW.mk m l x)
def BP.mk(m:Nat→Nat):(p:BP)→p.V→Bx
 | .mem l,x=> .mem (Tu.mk m l x)
 | .sl d r,x=> .sl d r x
 | .gone,_=> .dead
def E7.mk(m:Nat→Nat):(l:List (Nat×XP))→E7.V l→List XV→List XV
 |[],_,tm=>tm
 |(i,p)::l,x,tm=>E7.mk m l x.2 (tm.set i (p.mk m x.1))
def G_.mk(m:Nat→Nat):(l:List BP)→G_.V l→List Bx
 |[],_=>[]
 |p::l,x=>p.mk m x.1::G_.mk m l x.2
def B3.st(s:B3)(n:Nat)(x:s.V):St:=
 { tm:=E7.mk id s.C5 x.1 (List.replicate n (.c .undef)),bx:=G_.mk id s.E5 x.2 }
abbrev MW:=List (Option Nat)
def MW.put(m:MW)(i b:Nat):Option MW:=
 match m[i]? with
 |some none=>if m.contains (some b)then none else some (m.set i (some b))
 |some (some b')=>if b' =b then some m else none
 |none=>none
def Wu:MW→List Nat→List Nat→Option MW
 |m,[],[]=>some m
 |m,i::is,b::bs=>(m.put i b).bind fun m=>Wu m is bs
 |_,_,_=>none
def AP.Ku(N:Nat)(m:MW):AP→AV→Option MW
 | .ref i,.ref b []=>m.put i b
 | .ref i,.nil=>m.put i (N+i)
 | .ref _,_=>none
 | .cS i sz,.ref b [s]=>if s.sz=sz then m.put i b else none
 | .cS _ _,_=>none
 | .ptr i j,.GA b j' =>if j=j' then m.put i b else none
 | .ptr _ _,_=>none
 | .fn f Hg,.fn g bs=>if f=g then Wu m Hg bs else none
 | .fn _ _,_=>none
 | .nil,.nil=>some m
 | .nil,_=>none
 |_,_=>some m
def Tu.Ku(N:Nat):MW→List AP→List AV→Option MW
 |m,[],[]=>some m
 |m,p::l,x::xs=>(p.Ku N m x).bind fun m=>Tu.Ku N m l xs
 |_,_,_=>none
def UW.Ku(N:Nat):MW→List (AP ⊕ List AP)→List (AV ⊕ List AV)→Option MW
 |m,[],[]=>some m
 |m,.inl p::l,.inl x::xs=>(p.Ku N m x).bind fun m=>UW.Ku N m l xs
 |m,.inr p::l,.inr x::xs=>(Tu.Ku N m p x).bind fun m=>UW.Ku N m l xs
 |_,_,_=>none
def XP.Ku(N:Nat)(m:MW):XP→XV→Option MW
 | .c p,.c x=>p.Ku N m x
 | .agg l,.agg xs=>Tu.Ku N m l xs
 | .row _,.agg _=>some m
 | .Kv l,.Kv xs=>UW.Ku N m l xs
 |_,_=>none
def E7.Ku(N:Nat)(tm:List XV):MW→List (Nat×XP)→Option MW
 |m,[]=>some m
 |m,(i,p)::l=>
  match tm[i]? with
  |some x=>(p.Ku N m x).bind fun m=>E7.Ku N tm m l
  |none=>none
def G_.Ku(N:Nat)(bx:List Bx):Nat→MW→List BP→Option MW
 |_,m,[]=>some m
 |i,m,.mem l::ps=>
  match m[i]? with
  |some (some b)=>
   match bx[b]? with
   |some (.mem cs)=>(Tu.Ku N m l cs).bind fun m=>G_.Ku N bx (i+1) m ps
   |_=>none
  |_=>none
 |i,m,.sl _ _::ps=>
  match m[i]? with
  |some (some _)=>G_.Ku N bx (i+1) m ps
  |_=>none
 |i,m,.gone::ps=>G_.Ku N bx (i+1) m ps
def CF(bx:List Bx):MW→List Bx
 |[]=>bx
 |some b::m=>CF (bx.set b .dead) m
 |none::m=>CF bx m
def VM.hD:(l:List Ty)→List ((r:Ty)×r.D)→Option (VM l)
 |[],[]=>some ()
 |r::l,q::qs=>(NR (β:=Ty.D) q.1 r q.2).bind fun a=>(VM.hD l qs).map fun b=>(a,b)
 |_,_=>none
def VM.gH(bx:List Bx):(l:List Ty)→List Nat→Option (VM l)
 |[],[]=>some ()
 |r::l,b::bs=>(match bx[b]? with
  |some (.mem cs)=>GG bx r cs
  |_=>none).bind fun a=>(VM.gH bx l bs).map fun c=>(a,c)
 |_,_=>none
def AP.get(bx:List Bx):(p:AP)→AV→Option p.V
 | .kJ f rs,x=>match x with
  | .kJ g rows=>if f=g then VM.hD rs rows else none
  | .fn g bs=>if f=g then VM.gH bx rs bs else none
  |_=>none
 | .v t,x=>if t.scalar then J4 bx t x else none
 | .sl false r,x=>J4 bx (.sl r) x
 | .sl true r,x=>match x with
  | .sl true q y=>NR (β:=fun r=>List r.D) q r y
  | .nil=>some []
  |_=>none
 | .jX r,x=>match x with
  | .K4 _ q y 0=>NR (β:=Ty.D) q r y
  | .GA b 0=>match bx[b]? with
   |some (.mem cs)=>GG bx r cs
   |_=>none
  | .HW b p i sz 0=>match bx[b]? with
   |some (.sl _ q rows)=>(E6 q rows p).bind fun s=>if sz=s.1.n then NR (β:=Ty.D) s.1 r (rowAt s.1 s.2 i)else none
   |_=>none
  |_=>none
 | .nil,_=>some ()
 | .ref _,_=>some ()
 | .ptr _ _,_=>some ()
 | .fn _ _,_=>some ()
 | .any,_=>some ()
 | .cS _ _,x=>match x with
  | .ref _ [s]=>some (s.i,s.j)
  |_=>none
def Tu.get(bx:List Bx):(l:List AP)→List AV→Option (Tu.V l)
 |[],[]=>some ()
 |p::l,x::xs=>(p.get bx x).bind fun a=>(Tu.get bx l xs).map fun b=>(a,b)
 |_,_=>none
def UW.get(bx:List Bx):(l:List (AP ⊕ List AP))→List (AV ⊕ List AV)→Option (UW.V l)
 |[],[]=>some ()
 | .inl p::l,.inl x::xs=>(p.get bx x).bind fun a=>(UW.get bx l xs).map fun b=>(a,b)
 | .inr p::l,.inr x::xs=>(Tu.get bx p x).bind fun a=>(UW.get bx l xs).map fun b=>(a,b)
 |_,_=>none
def XP.get(bx:List Bx):(p:XP)→XV→Option p.V
 | .c p,.c x=>p.get bx x
 | .agg l,.agg xs=>Tu.get bx l xs
 | .row r,.agg xs=>GG bx r xs
 | .Kv l,.Kv xs=>UW.get bx l xs
 |_,_=>none
def E7.get(bx:List Bx)(tm:List XV):(l:List (Nat×XP))→Option (E7.V l)
 |[]=>some ()
 |(i,p)::l=>
  match tm[i]? with
  |some x=>(p.get bx x).bind fun a=>(E7.get bx tm l).map fun b=>(a,b)
  |none=>none
def G_.get(bx bk:List Bx):(m:MW)→(l:List BP)→Option (G_.V l)
 |_,[]=>some ()
 |some b::m,.mem l::ps=>
  match bx[b]? with
  |some (.mem cs)=>(Tu.get bk l cs).bind fun a=>(G_.get bx bk m ps).map fun c=>(a,c)
  |_=>none
 |some b::m,.sl d r::ps=>
  match bx[b]? with
  |some (.sl d' q rows)=>if 1≤d∧d≤d' then(NR (β:=fun r=>List r.D) q r rows).bind fun a=>(G_.get bx bk m ps).map fun c=>(a,c)else none
  |_=>none
 |_::m,.gone::ps=>(G_.get bx bk m ps).map fun c=>((),c)
 |_,_=>none
def B3.fit(s:B3)(N:Nat)(m0:MW)(tm:List XV)(bx:List Bx):Option (s.V×MW):=
 (E7.Ku N tm m0 s.C5).bind fun m=>(G_.Ku N bx 0 m s.E5).bind fun m=>
  let bk:=CF bx m
  (E7.get bk tm s.C5).bind fun a=>(G_.get bx bk m s.E5).map fun c=>((a,c),m)
def BP.opened:BP→Bx
 | .sl d r=> .sl (d+1) r []
 |_=> .dead
def B3.opens(s:B3)(bx:List Bx):List Bx:=bx++s.E5.map BP.opened
def B3.m0(s:B3):MW:=List.replicate s.E5.length none
structure Qz where
 ins:B3
 outs:B3
 g:ins.V→Option outs.V
def T5(m:MW)(n:Nat)(i:Nat):Nat:=
 match m[i]? with
 |some (some b)=>b
 |_=>n+(i-m.length)
def VS(Hd:Nat→Nat):Nat→(l:List BP)→G_.V l→List Bx→List Bx
 |_,[],_,bx=>bx
 |i,p::l,x,bx=>VS Hd (i+1) l x.2 (if Hd i<bx.length then bx.set (Hd i) (p.mk Hd x.1)else bx++[p.mk Hd x.1])
def YU:(l:List (Nat×XP))→E7.V l→(Nat→Nat)→XV
 |(_,p)::_,x,Hd=>p.mk Hd x.1
 |[],_,_=> .c .undef
def Dd:Nat:=2^36
section ops
variable{Y:Type}
abbrev K(Y:Type):=XV→St→Option Y
def St.new(σ:St)(b:Bx):St:={ σ with bx:=σ.bx++[b] }
def uI(x:Bool)(a b:XV)(σ:St)(k:K Y):Option Y:=cond x (k a σ) (k b σ)
def ZD(op:BinOp)(κ:IntKind)(a b:Int)(k:AV→Option Y):Option Y:=
 match op with
 | .add=>k (.v (.int κ) (κ.wrap (a+b)))
 | .sub=>k (.v (.int κ) (κ.wrap (a-b)))
 | .mul=>k (.v (.int κ) (κ.wrap (a*b)))
 | .quo=>if b=0 then none else k (.v (.int κ) (κ.wrap (a.tdiv b)))
 | .rem=>if b=0 then none else k (.v (.int κ) (a.tmod b))
 | .and=>k (.v (.int κ) (κ.wrap (BitVec.ofInt κ.bits a &&& BitVec.ofInt κ.bits b).toNat))
 | .or=>k (.v (.int κ) (κ.wrap (BitVec.ofInt κ.bits a ||| BitVec.ofInt κ.bits b).toNat))
 | .xor=>k (.v (.int κ) (κ.wrap (BitVec.ofInt κ.bits a ^^^ BitVec.ofInt κ.bits b).toNat))
 | .andNot=>k (.v (.int κ) (κ.wrap (BitVec.ofInt κ.bits a &&& ~~~BitVec.ofInt κ.bits b).toNat))
 | .eql=>k (.v .bool (a==b))
 | .neq=>k (.v .bool (a !=b))
 | .lss=>k (.v .bool (decide (a<b)))
 | .leq=>k (.v .bool (decide (a≤b)))
 | .gtr=>k (.v .bool (decide (a>b)))
 | .geq=>k (.v .bool (decide (a≥b)))
 |_=>none
def T0(op:BinOp)(κ:IntKind)(a b:Int)(k:AV→Option Y):Option Y:=
 if b<0 then none else
 match op with
 | .shl=>k (.v (.int κ) (κ.wrap (a*2^min b.toNat κ.bits)))
 | .shr=>k (.v (.int κ) (a.fdiv (2^min b.toNat κ.bits)))
 |_=>none
def ai(op:BinOp)(a b:ACu)(k:AV→Option Y):Option Y:=
 match op with
 | .add=>if a.length+b.length≤Dd then k (.v .str (a++b))else none
 | .eql=>k (.v .bool (a==b))
 | .neq=>k (.v .bool (!(a==b)))
 | .lss=>k (.v .bool (Op.bytesLess a b))
 | .leq=>k (.v .bool (Op.bytesLess a b||a==b))
 | .gtr=>k (.v .bool (!(Op.bytesLess a b||a==b)))
 | .geq=>k (.v .bool (!Op.bytesLess a b))
 |_=>none
def g_:TD→AV→AV→Option Bool
 | .int _,.v (.int j) a,.v (.int k) b=>if j=k then some (a==b)else none
 | .bool,.v .bool a,.v .bool b=>some (a==b)
 | .str,.v .str a,.v .str b=>some (a==b)
 |_,_,_=>none
def IZ(T:Hq):Nat→List ADF→List AV→List AV→Option Bool
 |_,[],[],[]=>some true
 |i,(o,t)::fs,x::l,z::m=>
  if o=i then
   match T.get t with
   |some ti=>match g_ ti.desc x z with
    |some p=>(IZ T (i+1) fs l m).map fun r=>p&&r
    |none=>none
   |none=>none
  else none
 |_,_,_,_=>none
def Hq.fields(T:Hq)(t:Nat):Option (List ADF):=
 match(T.get t).map TI.desc with
 |some (.st fs)=>some fs
 |_=>none
def mX(T:Hq)(t:Nat)(op:BinOp)(a b:XV)(k:AV→Option Y):Option Y:=
 match a,b with
 | .c (.v (.int j) x),.c (.v (.int j') y)=>
  match op with
  | .shl| .shr=>T0 op j x y k
  |_=>if j=j' then ZD op j x y k else none
 | .c (.v .str x),.c (.v .str y)=>ai op x y k
 | .c (.v .bool x),.c (.v .bool y)=>
  match T.get t with
  |some ti=>match ti.desc with
   | .bool=>match op with
    | .eql=>k (.v .bool (x==y))
    | .neq=>k (.v .bool (!(x==y)))
    |_=>none
   |_=>none
  |none=>none
 | .agg l,.agg m=>
  match op,(T.fields t).bind fun fs=>IZ T 0 fs l m with
  | .eql,some r=>k (.v .bool r)
  | .neq,some r=>k (.v .bool (!r))
  |_,_=>none
 |_,_=>none
def unX(op:UnOp)(a:XV)(k:AV→Option Y):Option Y:=
 match op,a with
 | .not,.c (.v .bool x)=>k (.v .bool (!x))
 | .neg,.c (.v (.int j) x)=>k (.v (.int j) (j.wrap (0-x)))
 |_,_=>none
def qI(d b:Nat)(p:List dK)(s:dK):((t:Ty)×t.D)→AV
 |⟨.sl r,x⟩=>if d≤1 then .sl true r x else .ref b (p++[s])
 |⟨t,x⟩=>if t.scalar then .v t x else .undef
def pr(s:Bool):((t:Ty)×t.D)→AV
 |⟨.sl r,x⟩=> .sl s r x
 |⟨t,x⟩=>if t.scalar then .v t x else .undef
def YG(f:Nat→Option AV):Nat→Nat→Option (List AV)
 |_,0=>some []
 |j,n+1=>(f j).bind fun x=>(YG f (j+1) n).map fun l=>x::l
def HI(bx:List Bx):AV→Nat→Option AV
 | .GA b j,i=>
  match bx[b]? with
  |some (.mem cs)=>cs[j+i]?
  |_=>none
 | .HW b p r sz j,i=>
  match bx[b]? with
  |some (.sl d q rows)=>if p.length<d then(E6 q rows p).bind fun s=>if sz=s.1.n then(Am s.1 (j+i) (rowAt s.1 s.2 r)).map (qI (d-p.length) b p ⟨r,sz,j+i⟩)else none else none
  |_=>none
 | .K4 s r x j,i=>(Am r (j+i) x).map (pr s)
 |_,_=>none
def dY(T:Hq)(t:Nat)(σ:St)(a:XV):Option XV:=
 match a,T.get t with
 | .c a,some ti=>if ti.size=0 then none else if ti.desc.agg then(YG (HI σ.bx a) 0 ti.size).map .agg else(HI σ.bx a 0).map .c
 |_,_=>none
def Xs(d:Nat)(t:Ty)(x:AV)(bx:List Bx):Option (t.D×List Bx×Nat):=
 match x with
 | .v u y=>(NR (β:=Ty.D) u t y).map fun y=>(y,bx,d)
 | .nil=>match t with
  | .sl _=>some ([],bx,d)
  |_=>none
 | .sl true r y=>match t with
  | .sl q=>(NR (β:=fun r=>List r.D) r q y).map fun y=>(y,bx,1)
  |_=>none
 | .ref b []=>match t with
  | .sl q=>
   match bx[b]? with
   |some (.sl d' r y)=>(NR (β:=fun r=>List r.D) r q y).map fun y=>(y,bx.set b .dead,min d (d'+1))
   |_=>none
  |_=>none
 | .XT b [] off n=>match t with
  | .sl q=>
   match bx[b]? with
   |some (.sl d' r y)=>(NR (β:=fun r=>List r.D) r q ((y.drop off).take n)).map fun y=>(y,bx.set b .dead,min d (d'+1))
   |_=>none
  |_=>none
 |_=>none
def cellsIn(d:Nat):(r:Ty)→List AV→List Bx→Option (r.D×List Bx×Nat)
 | .unit,[],bx=>some ((),bx,d)
 | .cons c r,x::l,bx=>(Xs d c x bx).bind fun a=>(cellsIn a.2.2 r l a.2.1).map fun b=>((a.1,b.1),b.2)
 |_,_,_=>none
def uo(d:Nat)(r:Ty)(x:XV)(bx:List Bx):Option (r.D×List Bx×Nat):=
 match x with
 | .agg l=>cellsIn d r l bx
 | .c x=>Xs d r x bx
 |_=>none
def HX(b:Nat):AV→AV
 | .ref b' (s::p)=>if b' =b then .undef else .ref b' (s::p)
 | .XT b' (s::p) i n=>if b' =b then .undef else .XT b' (s::p) i n
 | .HW b' (s::p) i sz j=>if b' =b then .undef else .HW b' (s::p) i sz j
 |x=>x
def ko(b:Nat):XV→XV
 | .c x=> .c (HX b x)
 | .agg l=> .agg (l.map (HX b))
 | .Kv l=> .Kv (l.map fun| .inl x=> .inl (HX b x)| .inr q=> .inr (q.map (HX b)))
def qp(b:Nat):Bx→Bx
 | .mem cs=> .mem (cs.map (HX b))
 |x=>x
def St.qA(b:Nat)(σ:St):St:={ tm:=σ.tm.map (ko b),bx:=σ.bx.map (qp b) }
def TZ(cs:List AV):Nat→List AV→Option (List AV)
 |_,[]=>some cs
 |j,x::l=>if j<cs.length then TZ (cs.set j x) (j+1) l else none
def gE(d:Nat)(r:Ty)(old:r.D)(j:Nat)(x:XV)(bx:List Bx):Option (r.D×List Bx×Nat):=
 match x with
 | .agg l=>if j=0 then cellsIn d r l bx else none
 | .c x=>
  match Am r j old with
  |some ⟨t,_⟩=>(Xs d t x bx).bind fun a=>(Cq r j old t a.1).map fun row=>(row,a.2)
  |none=>none
 |_=>none
def XV.plain:XV→Bool
 | .c (.v _ _)=>true
 |_=>false
def Zy(σ:St)(a:XV)(x:XV):Option St:=
 match a with
 | .c (.GA b j)=>
  match σ.bx[b]? with
  |some (.mem cs)=>(TZ cs j x.cells).map fun cs=>{ σ with bx:=σ.bx.set b (.mem cs) }
  |_=>none
 | .c (.HW b p i sz j)=>
  match σ.bx[b]? with
  |some (.sl d r rows)=>if p.length<d then
   (E6 r rows p).bind fun s=>if sz=s.1.n then(gE (d-p.length) s.1 (rowAt s.1 s.2 i) j x (σ.bx.set b .dead)).bind fun w=>
    (fb r rows p s.1 (s.2.set i w.1)).map fun rows=>
     let σ':St:={ σ with bx:=w.2.1.set b (.sl (w.2.2+p.length) r rows) }
     if x.plain then σ' else σ'.qA b
    else none
   else none
  |_=>none
 |_=>none
def Vo(σ:St)(a x:XV):Option (St×XV):=
 match a,x with
 | .c (.HW b _ _ _ _),.c (.XT b' (s::p') off n)=>
  if b' =b then
   match σ.bx[b]? with
   |some (.sl d r rows)=>(E6 r rows (s::p')).map fun q=>({ σ with bx:=σ.bx.set b (.sl (min d (p'.length+1)) r rows) },.c (.sl true q.1 ((q.2.drop off).take n)))
   |_=>none
  else none
 |_,_=>some (σ,x)
def OZ(σ:St)(a x:XV):Option St:=(Vo σ a x).bind fun q=>Zy q.1 a q.2
def fC(bx:List Bx)(x:AV):Option ((r:Ty)×(List r.D×List Bx×Nat)):=
 match x with
 | .v .str s=>some ⟨.int .u8,s.map (fun c=>(c.toNat:Int)),bx,9⟩
 | .sl s r rows=>if r.flat then some ⟨r,rows,bx,9⟩else if s then some ⟨r,rows,bx,1⟩else none
 | .ref b []=>
  match bx[b]? with
  |some (.sl d r rows)=>if r.flat then some ⟨r,rows,bx,9⟩else some ⟨r,rows,bx.set b .dead,d⟩
  |_=>none
 | .ref b p=>
  match bx[b]? with
  |some (.sl _ r rows)=>(E6 r rows p).bind fun q=>if q.1.flat then some ⟨q.1,q.2,bx,9⟩else none
  |_=>none
 | .XT b p off n=>
  match bx[b]? with
  |some (.sl _ r rows)=>(E6 r rows p).bind fun q=>if q.1.flat then some ⟨q.1,(q.2.drop off).take n,bx,9⟩else none
  |_=>none
 |_=>none
def fE(bx:List Bx)(x:AV):Option ((r:Ty)×(List r.D×List Bx×Nat)):=
 match x with
 | .ref b []=>
  match bx[b]? with
  |some (.sl d r rows)=>some ⟨r,rows,bx.set b .dead,d⟩
  |_=>none
 | .XT b [] off n=>
  match bx[b]? with
  |some (.sl d r rows)=>some ⟨r,(rows.drop off).take n,bx.set b .dead,d⟩
  |_=>none
 |_=>none
def Hq.elem(T:Hq)(t:Nat):Option TI:=
 match(T.get t).map TI.desc with
 |some (.sl e)=>T.get e
 |_=>none
def Hq.Oq(T:Hq)(t:Nat)(r:Ty):Bool:=
 match T.elem t with
 |some ti=>decide (ti.size=r.n)&&decide (ti.bytes≤512)&&decide (ti.row=some r)
 |none=>false
def Hq.isStr(T:Hq)(t:Nat):Bool:=
 match(T.get t).map TI.desc with
 |some .str=>true
 |_=>false
def Hq.yl(T:Hq)(t:Nat):Bool:=
 match(T.get t).map TI.desc with
 |some (.sl _)=>true
 |_=>false
def YV(T:Hq)(ts:Array TypeId)(σ:St)(a x:XV)(k:K Y):Option Y:=
 match ts[0]?,ts[1]? with
 |some t,some u=>
  if T.yl u||T.isStr u then
   match a,x with
   | .c .nil,.c y=>
    (fC σ.bx y).bind fun s=>if T.Oq t s.1 then
     if s.2.1.length≤Dd then k (.c (.ref s.2.2.1.length [])) { σ with bx:=s.2.2.1++[.sl s.2.2.2 s.1 s.2.1] }else none
     else none
   | .c a,.c y=>
    (fE σ.bx a).bind fun d=>if T.Oq t d.1 then(fC d.2.2.1 y).bind fun s=>
     (NR (β:=fun r=>List r.D) s.1 d.1 s.2.1).bind fun rows=>
      if d.2.1.length+rows.length≤Dd then
       k (.c (.ref s.2.2.1.length [])) { σ with bx:=s.2.2.1++[.sl (min d.2.2.2 s.2.2.2) d.1 (d.2.1++rows)] }
      else none
     else none
   |_,_=>none
  else none
 |_,_=>none
def bl(T:Hq)(ts:Array TypeId)(σ:St)(x:XV)(k:K Y):Option Y:=
 match ts[0]?,x with
 |some t,.c (.XT b [] off n)=>
  match σ.bx[b]? with
  |some (.sl d r rows)=>if T.Oq t r&&(r.flat&&decide (0<r.n))then k (.c .undef) { σ with bx:=σ.bx.set b (.sl d r ((rows.take off++List.replicate n r.z)++rows.drop (off+n))) }else none
  |_=>none
 |_,_=>none
def YA:XV→Option Int
 | .c (.v (.int _) n)=>some n
 |_=>none
def LK(len:Nat)(lo hi:Option XV)(k:Nat→Nat→Option Y):Option Y:=
 let h:Option Int:=match hi with
  |none=>some (len:Int)
  |some x=>YA x
 let l:Option Int:=match lo with
  |none=>some 0
  |some x=>YA x
 match l,h with
 |some l,some h=>if 0≤l∧l≤h∧h≤(len:Int)then k l.toNat h.toNat else none
 |_,_=>none
def cQ(T:Hq)(t:Nat)(σ:St)(x:XV)(lo hi:Option XV)(k:K Y):Option Y:=
 match x with
 | .c (.v .str s)=>if T.isStr t then LK s.length lo hi fun l h=>k (.c (.v .str ((s.drop l).take (h-l)))) σ else none
 | .c (.sl s r rows)=>if T.Oq t r then LK rows.length lo hi fun l h=>k (.c (.sl s r ((rows.drop l).take (h-l)))) σ else none
 | .c (.ref b p)=>
  match KP σ.bx (.ref b p)with
  |some q=>if T.Oq t q.1 then LK q.2.length lo hi fun l h=>k (.c (.XT b p l (h-l))) σ else none
  |none=>none
 |_=>none
def bw(σ:St)(T:Hq)(t:Nat)(x i:XV)(k:K Y):Option Y:=
 match x,YA i with
 | .c (.sl s r rows),some i=>if T.Oq t r then(if 0≤i∧i<(rows.length:Int)then k (.c (.K4 s r (rowAt r rows i.toNat) 0)) σ else none)else none
 | .c (.ref b p),some i=>
  match KP σ.bx (.ref b p)with
  |some q=>if T.Oq t q.1 then(if 0≤i∧i<(q.2.length:Int)then k (.c (.HW b p i.toNat q.1.n 0)) σ else none)else none
  |none=>none
 | .c (.XT b p off n),some i=>
  match KP σ.bx (.ref b p)with
  |some q=>if T.Oq t q.1 then(if 0≤i∧i<(n:Int)then k (.c (.HW b p (off+i.toNat) q.1.n 0)) σ else none)else none
  |none=>none
 |_,_=>none
def kq(T:Hq)(t:Nat)(x:XV)(f:Nat):Option XV:=
 match T.get t with
 |some ⟨_,_,.st fs,_⟩=>
  match fs[f]? with
  |some (o,_)=>match x with
   | .c (.GA b j)=>some (.c (.GA b (j+o)))
   | .c (.HW b p i sz j)=>some (.c (.HW b p i sz (j+o)))
   | .c (.K4 s r y j)=>some (.c (.K4 s r y (j+o)))
   |_=>none
  |none=>none
 |_=>none
def uw(T:Hq)(t:Nat)(x:XV)(f:Nat):Option XV:=
 match T.get t,x with
 |some ⟨_,_,.st fs,_⟩,.agg l=>
  match fs[f]? with
  |some (o,u)=>
   match T.get u with
   |some ti=>if ti.desc.agg then some (.agg ((l.drop o).take ti.size))else(l[o]?).map .c
   |none=>none
  |none=>none
 |_,_=>none
def kA(T:Hq)(src dst:Nat)(σ:St)(x:XV)(k:K Y):Option Y:=
 match(T.get src).map TI.desc,(T.get dst).map TI.desc,x with
 |some (.int _),some (.int κ),.c (.v (.int _) n)=>k (.c (.v (.int κ) (κ.wrap n))) σ
 |some .str,some .str,.c (.v .str s)=>k (.c (.v .str s)) σ
 |some .str,some (.sl e),.c (.v .str s)=>
  match(T.get e).map TI.desc with
  |some (.int .u8)=>if s.length≤Dd then k (.c (.ref σ.bx.length [])) (σ.new (.sl 9 (.int .u8) (s.map fun c=>(c.toNat:Int))))else none
  |_=>none
 |some (.sl e),some .str,.c x=>
  match(T.get e).map TI.desc,J4 σ.bx (.sl (.int .u8)) x with
  |some (.int .u8),some l=>k (.c (.v .str (l.map fun n:Int=>UInt8.ofNat n.toNat))) σ
  |_,_=>none
 |_,_,_=>none
def j5(T:Hq)(t:Nat)(σ:St)(l c:XV)(k:K Y):Option Y:=
 match(T.get t).map TI.desc,YA l,YA c with
 |some (.sl e),some n,some m=>
  match Hq.aI T e with
  |some r=>if T.Oq t r then(if 0≤n∧n≤m∧m≤(Dd:Int)then k (.c (.ref σ.bx.length [])) (σ.new (.sl 9 r (List.replicate n.toNat r.z)))else none)else none
  |none=>none
 |_,_,_=>none
def Zf(T:Hq)(fs:List ADF):List AV→List (Nat×XV)→Option (List AV)
 |cs,[]=>some cs
 |cs,(i,x)::l=>
  match fs[i]? with
  |some (o,u)=>
   match T.get u with
   |some ti=>if x.cells.length=ti.size∧ti.size≠0∧x.cells.all AV.known=true then(TZ cs o x.cells).bind fun cs=>Zf T fs cs l else none
   |none=>none
  |none=>none
def Uq(r:Ty):Nat→Nat→List (Nat×XV)→List Bx→Nat→Option (List r.D×List Bx×Nat)
 |_,0,[],bx,d=>some ([],bx,d)
 |i,n+1,(j,x)::l,bx,d=>
  if i=j then(uo d r x bx).bind fun a=>(Uq r (i+1) n l a.2.1 a.2.2).map fun b=>(a.1::b.1,b.2)else none
 |i,n+1,[],bx,d=>(Uq r (i+1) n [] bx d).map fun b=>(r.z::b.1,b.2)
 |_,0,_::_,_,_=>none
def Nw(T:Hq)(t n:Nat)(parts:List (Nat×XV))(σ:St)(k:K Y):Option Y:=
 match(T.get t).map TI.desc with
 |some (.sl e)=>
  match Hq.aI T e with
  |some r=>if T.Oq t r&&decide (n≤1024)&&decide (r.n≤1024)then(Uq r 0 n parts σ.bx 9).bind fun a=>k (.c (.ref a.2.1.length [])) { σ with bx:=a.2.1++[.sl a.2.2 r a.1] }else none
  |none=>none
 |_=>none
def Sn(T:Hq)(t:Nat)(σ:St)(x i:XV)(k:K Y):Option Y:=
 match x,YA i with
 | .c (.v .str s),some i=>if T.isStr t then if 0≤i∧i<(s.length:Int)then k (.c (.v (.int .u8) ((s.getD i.toNat 0).toNat:Int))) σ else none else none
 |_,_=>none
def iT(x:XV)(i:Nat):Option XV:=
 match x with
 | .Kv l=>match l[i]? with
  |some (.inl a)=>some (.c a)
  |some (.inr q)=>some (.agg q)
  |none=>none
 |_=>none
def De(m:MW):AV→AV
 | .ref b (s::p)=>if m.contains (some b)then .undef else .ref b (s::p)
 | .XT b (s::p) i n=>if m.contains (some b)then .undef else .XT b (s::p) i n
 | .HW b (s::p) i sz j=>if m.contains (some b)then .undef else .HW b (s::p) i sz j
 |x=>x
def Qw(m:MW):XV→XV
 | .c x=> .c (De m x)
 | .agg l=> .agg (l.map (De m))
 | .Kv l=> .Kv (l.map fun| .inl x=> .inl (De m x)| .inr q=> .inr (q.map (De m)))
def td(m:MW):Bx→Bx
 | .mem cs=> .mem (cs.map (De m))
 |x=>x
def St.Sx(m:MW)(σ:St):St:=
 match m with
 |[]=>σ
 |_::_=>{ tm:=σ.tm.map (Qw m),bx:=σ.bx.map (td m) }
def df(c:Qz)(args:List XV)(σ:St)(k:K Y):Option Y:=
 if args.length=c.ins.C5.length then
  match c.ins.fit σ.bx.length c.ins.m0 args (c.ins.opens σ.bx)with
  |some (v,m)=>(c.g v).bind fun u=>
   let Hd:=T5 m (c.ins.opens σ.bx).length
   let σ1:=({ σ with bx:=c.ins.opens σ.bx }:St).Sx m
   k (YU c.outs.C5 u.1 Hd) { σ1 with bx:=VS Hd 0 c.outs.E5 u.2 (CF σ1.bx m) }
  |none=>none
 else none
def Ww(σ:St)(x:XV)(k:K Y):Option Y:=
 match x with
 | .c (.XT b [] off n)=>
  (fE σ.bx (.XT b [] off n)).bind fun s=>k (.c (.ref s.2.2.1.length [])) { σ with bx:=s.2.2.1++[.sl s.2.2.2 s.1 s.2.1] }
 |x=>k x σ
def mJ(l:List XV):Option AB1:=
 match l with
 |[]=>some []
 | .c (.GA b 0)::l=>(mJ l).map fun r=>b::r
 |_=>none
def lU(big:Bool)(a b:XV)(k:AV→Option Y):Option Y:=
 match a,b with
 | .c (.v (.int j) x),.c (.v (.int j') y)=>
  if j=j' then(if big then k (.v (.int j) (if y>x then y else x))else k (.v (.int j) (if y<x then y else x)))else none
 |_,_=>none
def S5(T:Hq)(Γ:Nat→Option Qz)(o:Oper)(σ:St)(k:K Y):Option Y:=
 match o.op with
 | .move x=>k (σ.ev x) σ
 | .assign x=>Ww σ (σ.ev x) k
 | .pick c a b=>match σ.ev c with
  | .c (.v .bool x)=>uI x (σ.ev a) (σ.ev b) σ k
  |_=>none
 | .alloc t=>match Hq.aI T t with
  |some r=>k (.c (.GA σ.bx.length 0)) (σ.new (.mem (WL r)))
  |none=>none
 | .box t x=>match T.get t with
  |some ti=>if(σ.ev x).cells.length=ti.size∧ti.size≠0∧(σ.ev x).cells.all AV.known=true then k (.c (.GA σ.bx.length 0)) (σ.new (.mem (σ.ev x).cells))else none
  |none=>none
 | .build t parts=>match T.get t,Hq.aI T t with
  |some ⟨_,_,.st fs,_⟩,some r=>match Zf T fs (WL r) (parts.toList.map fun q=>(q.1,σ.ev q.2))with
   |some cs=>k (.agg cs) σ
   |none=>none
  |_,_=>none
 | .buildSlice t n parts=>Nw T t n (parts.toList.map fun q=>(q.1,σ.ev q.2)) σ k
 | .load t a=>match dY T t σ (σ.ev a)with
  |some x=>k x σ
  |none=>none
 | .store t a x=>match T.get t with
  |some ti=>if(σ.ev x).cells.length=ti.size∧ti.size≠0∧(σ.ev x).cells.all AV.known=true then(match OZ σ (σ.ev a) (σ.ev x)with
   |some σ=>k (.c .undef) σ
   |none=>none)else none
  |none=>none
 | .nilCheck x=>match σ.ev x with
  | .c (.GA b j)=>k (.c (.GA b j)) σ
  | .c (.HW b p i sz j)=>k (.c (.HW b p i sz j)) σ
  | .c (.K4 s r y j)=>k (.c (.K4 s r y j)) σ
  | .c (.fn f Hg)=>k (.c (.fn f Hg)) σ
  |_=>none
 | .binOp op t x y _=>mX T t op (σ.ev x) (σ.ev y) fun a=>k (.c a) σ
 | .unOp op _ x=>unX op (σ.ev x) fun a=>k (.c a) σ
 | .convert s d x=>kA T s d σ (σ.ev x) k
 | .makeFunc (.func f) first Hg=>if first.size=0 then(match mJ (Hg.toList.map σ.ev)with
  |some bs=>k (.c (.fn f bs)) σ
  |none=>none)else none
 | .makeSlice t l c=>j5 T t σ (σ.ev l) (σ.ev c) k
 | .slice t x lo hi none=>cQ T t σ (σ.ev x) (lo.map σ.ev) (hi.map σ.ev) k
 | .fieldAddr t x f=>match kq T t (σ.ev x) f with
  |some y=>k y σ
  |none=>none
 | .field t x f=>match uw T t (σ.ev x) f with
  |some y=>k y σ
  |none=>none
 | .indexAddr t x i=>bw σ T t (σ.ev x) (σ.ev i) k
 | .index t x i=>Sn T t σ (σ.ev x) (σ.ev i) k
 | .extract x i=>match iT (σ.ev x) i with
  |some y=>k y σ
  |none=>none
 | .call { callee:= .value f,args,.. }=>match σ.ev f with
  | .c (.fn f Hg)=>match Γ f with
   |some c=>df c (args.toList.map σ.ev++Hg.map fun b=> .c (.GA b 0)) σ k
   |none=>none
  | .c (.kJ f rows)=>match Γ f with
   |some c=>df c (args.toList.map σ.ev++rows.map fun q=> .c (.K4 false q.1 q.2 0)) σ k
   |none=>none
  |_=>none
 | .call { callee:= .builtin .len,args,argTypes }=>match args.toList.map σ.ev,argTypes[0]? with
  |[.c (.v .str s)],some t=>if T.isStr t then k (.c (.v (.int .i64) (s.length:Int))) σ else none
  |[.c x],some t=>if T.yl t then(match lenOf σ.bx x with
   |some n=>k (.c (.v (.int .i64) (n:Int))) σ
   |none=>none)else none
  |_,_=>none
 | .call { callee:= .builtin .append,args,argTypes }=>match args.toList.map σ.ev with
  |[a,x]=>YV T argTypes σ a x k
  |_=>none
 | .call { callee:= .builtin .clear,args,argTypes }=>match args.toList.map σ.ev with
  |[x]=>bl T argTypes σ x k
  |_=>none
 | .call { callee:= .builtin .max,args,.. }=>match args.toList.map σ.ev with
  |[a,x]=>lU true a x fun a=>k (.c a) σ
  |_=>none
 | .call { callee:= .builtin .min,args,.. }=>match args.toList.map σ.ev with
  |[a,x]=>lU false a x fun a=>k (.c a) σ
  |_=>none
 |_=>none
end ops
end Go.Fw
end
section
namespace Go.Fw
section
variable{Y:Type}
structure Z6 where
 T:Hq
 Γ:Nat→Option Qz
 hint:Nat→List Nat
def Z2(hint:AB1):XV→Bool
 | .c (.GA b _)=>hint.contains b
 | .c (.HW b _ _ _ _)=>hint.contains b
 | .c (.K4 _ _ _ _)=>true
 |_=>false
def bH(hint:AB1)(σ:St):Op→Bool
 | .assign x=>match σ.ev x with
  | .c (.XT _ [] _ _)=>false
  |_=>true
 | .move _| .pick .. | .nilCheck _| .binOp .. | .unOp .. | .fieldAddr .. | .field .. | .indexAddr .. | .index .. | .extract .. | .build .. =>true
 | .slice _ _ _ _ none=>true
 | .load _ a=>Z2 hint (σ.ev a)
 | .call { callee:= .builtin .len,.. }=>true
 | .call { callee:= .builtin .max,.. }=>true
 | .call { callee:= .builtin .min,.. }=>true
 |_=>false
def GZ(Γ:Nat→Option Qz)(σ:St):Op→List Nat
 | .store _ a _=>match σ.ev a with
  | .c (.GA b _)=>[b]
  | .c (.HW b _ _ _ _)=>[b]
  |_=>[]
 | .call { callee:= .value f,args,.. }=>match σ.ev f with
  | .c (.fn f Hg)=>match Γ f with
   |some c=>match c.ins.fit σ.bx.length c.ins.m0 (args.toList.map σ.ev++Hg.map fun b=> .c (.GA b 0)) (c.ins.opens σ.bx)with
    |some (_,m)=>m.filterMap id
    |none=>[]
   |none=>[]
  | .c (.kJ f rows)=>match Γ f with
   |some c=>match c.ins.fit σ.bx.length c.ins.m0 (args.toList.map σ.ev++rows.map fun q=> .c (.K4 false q.1 q.2 0)) (c.ins.opens σ.bx)with
    |some (_,m)=>m.filterMap id
    |none=>[]
   |none=>[]
  |_=>[]
 | .call { callee:= .builtin .clear,args,.. }=>match args.toList.map σ.ev with
  |[.c (.XT b _ _ _)]=>[b]
  |_=>[]
 |_=>[]
def tt:XV:= .c (.v .bool true)
def ff:XV:= .c (.v .bool false)
def qV(C:Z6)(ops:Array Oper)(o:Oper)(kn:St→Option Y)(σ:St):Option Y:=
 match o.guard with
 |none=>S5 C.T C.Γ o σ fun x σ' =>kn (σ'.put o.dst x)
 |some (j,want)=>
  match(ops[j]?).bind (·.dst)with
  |some t=>
   match σ.tm[t]? with
   |some (.c (.v .bool b))=>
    let yes (σ:St):Option Y:=S5 C.T C.Γ o σ fun x σ' =>kn (σ'.put o.dst x)
    let no (σ:St):Option Y:=kn (σ.put o.dst (.Kv []))
    cond b ((if want then yes else no) (σ.put (some t) tt)) ((if want then no else yes) (σ.put (some t) ff))
   |some (.Kv [])=>kn (σ.put o.dst (.Kv []))
   |_=>none
  |none=>none
def lF(C:Z6)(all:Array Oper):List Oper→(St→Option Y)→St→Option Y
 |[],kn,σ=>kn σ
 |o::rest,kn,σ=>qV C all o (fun σ' =>lF C all rest kn σ') σ
def qt(C:Z6)(ops:Array Oper)(i:Nat)(kn:St→Option Y)(σ:St):Option Y:=
 match ops[i]? with
 |none=>none
 |some o=>qV C ops o kn σ
def ck(bx:List Bx)(b:Nat):Bool:=
 match bx[b]? with
 |some .dead=>true
 |some _=>false
 |none=>true
def idle(ops:Array Oper)(σ:St)(o:Oper):Bool:=
 match o.guard with
 |none=>false
 |some (j,want)=>
  match(ops[j]?).bind (·.dst)with
  |some t=>
   match σ.tm[t]? with
   |some (.c (.v .bool b))=>b !=want
   |some (.Kv [])=>true
   |_=>false
  |none=>false
def ij(hint:AB1)(ops:Array Oper)(Cy:Array Bool)(σ:St)(i:Nat):Bool:=
 match ops[i]? with
 |some o=>(bH hint σ o.op||idle ops σ o)&&Region.free .any ops Cy i
 |none=>false
def kj(f:Nat→List Bool→Option Y):List Nat→List Bool→Option Y
 |[],_=>none
 |[i],ω=>f i ω
 |i::_::_,[]=>f i []
 |i::_::_,true::ω=>f i ω
 |_::j::r,false::ω=>kj f (j::r) ω
def QD(C:Z6)(hint:AB1)(ops:Array Oper)(kn:List Bool→St→Option Y):Nat→Array Bool→List Bool→St→Option Y
 |fuel,Cy,ω,σ=>
  if hint.all (fun b=> !ck σ.bx b)then
   match Region.ready .any ops Cy with
   |[]=>kn ω σ
   |rs=>
    match fuel with
    |0=>none
    |fuel+1=>
     match rs.find? (ij hint ops Cy σ)with
     |some i=>qt C ops i (fun σ' =>QD C hint ops kn fuel (Cy.setIfInBounds i true) ω σ') σ
     |none=>kj (fun i ω=>
      match ops[i]? with
      |some o=>if(GZ C.Γ σ o.op).all (fun b=> !hint.contains b)then qt C ops i (fun σ' =>QD C hint ops kn fuel (Cy.setIfInBounds i true) ω σ') σ else none
      |none=>none) rs ω
  else none
def first:Code→Nat
 | .region id _ _=>id
 | .seq a _=>first a
 | .cond _ a _=>first a
 | .block _ a=>first a
 | .loop a=>first a
 | .scope a=>first a
 |_=>0
abbrev KN(Y:Type):=List Bool→St→Option Y
def run(C:Z6)(J:Nat→St→Option Y):Code→KN Y→(Nat→KN Y)→KN Y→KN Y
 | .skip,kn,_,_,ω,σ=>kn ω σ
 | .region id ops draw,kn,_,_,ω,σ=>
  if draw then(if Region.noSelect ops then QD C (C.hint id) ops kn ops.size (Array.replicate ops.size false) ω σ else none)else lF C ops ops.toList (kn ω) σ
 | .seq a b,kn,kx,kr,ω,σ=>run C J a (fun ω σ=>run C J b kn kx kr ω σ) kx kr ω σ
 | .cond (.tmp t) a b,kn,kx,kr,ω,σ=>
  match σ.tm[t]? with
  |some (.c (.v .bool x))=>cond x (run C J a kn kx kr ω (σ.put (some t) tt)) (run C J b kn kx kr ω (σ.put (some t) ff))
  |_=>none
 | .block id body,kn,kx,kr,ω,σ=>run C J body kn (fun j ω σ=>if j=id then kn ω σ else kx j ω σ) kr ω σ
 | .loop body,_,_,_,_,σ=>J (first body) σ
 | .exit id,_,kx,_,ω,σ=>kx id ω σ
 | .ret,_,_,kr,ω,σ=>kr ω σ
 |_,_,_,_,_,_=>none
def find(C:Z6)(J:Nat→St→Option Y)(ℓ :Nat):Code→KN Y→(Nat→KN Y)→KN Y→Option (KN Y)
 | .seq a b,kn,kx,kr=>
  match find C J ℓ a (fun ω σ=>run C J b kn kx kr ω σ) kx kr with
  |some f=>some f
  |none=>find C J ℓ b kn kx kr
 | .cond _ a b,kn,kx,kr=>
  match find C J ℓ a kn kx kr with
  |some f=>some f
  |none=>find C J ℓ b kn kx kr
 | .block id body,kn,kx,kr=>find C J ℓ body kn (fun j ω σ=>if j=id then kn ω σ else kx j ω σ) kr
 | .loop body,_,kx,kr=>
  if first body= ℓ then some (fun ω σ=>run C J body (fun _ σ=>J ℓ σ) kx kr ω σ)else find C J ℓ body (fun _ σ=>J (first body) σ) kx kr
 |_,_,_,_=>none
def uv(T:Hq)(σ:St):ResultVar→Option XV
 | .tmp t=>σ.tm[t]?
 | .cell a t=>match σ.tm[a]? with
  |some x=>dY T t σ x
  |none=>none
def nI:List XV→Option (List (AV ⊕ List AV))
 |[]=>some []
 | .c x::l=>(nI l).map fun r=> .inl x::r
 | .agg q::l=>(nI l).map fun r=> .inr q::r
 |_=>none
def fZ(T:Hq)(σ:St)(rs:List ResultVar):Option XV:=
 match rs.mapM (uv T σ)with
 |some [x]=>some x
 |some l=>(nI l).map .Kv
 |none=>none
def Pk:Nat→Nat→List BP→MW
 |_,_,[]=>[]
 |i,n,p::l=>(match p with| .gone=>none|_=>if i<n then some i else none)::Pk (i+1) n l
def jQ(T:Hq)(c:Qz)(rs:List ResultVar)(σ:St):Option c.outs.V:=
 (fZ T σ rs).bind fun x=>(c.outs.fit σ.bx.length (Pk 0 c.ins.E5.length c.outs.E5) [x] (c.outs.opens σ.bx)).map fun q=>q.1
def Fz(C:Z6)(c:Qz)(fn:Func)(J:Nat→St→Option c.outs.V)(ω:List Bool)(v:c.ins.V):Option c.outs.V:=
 match fn.body with
 |some code=>run C J code (fun _=>jQ C.T c fn.results.toList) (fun _ _ _=>none) (fun _=>jQ C.T c fn.results.toList) ω (c.ins.st fn.ntmps v)
 |none=>none
def Gh(C:Z6)(c:Qz)(fn:Func)(J:Nat→St→Option c.outs.V)(ℓ :Nat)(ω:List Bool)(σ:St):Option c.outs.V:=
 match fn.body with
 |some code=>
  match find C J ℓ code (fun _=>jQ C.T c fn.results.toList) (fun _ _ _=>none) (fun _=>jQ C.T c fn.results.toList)with
  |some f=>f ω σ
  |none=>none
 |none=>none
def AV.fS(b:Nat)(r:Ty)(rows:List r.D):AV→AV
 | .ref k []=>if k=b then .sl true r rows else .ref k []
 |x=>x
def XV.fS(b:Nat)(r:Ty)(rows:List r.D):XV→XV
 | .c x=> .c (x.fS b r rows)
 |x=>x
def Bx.fS(b:Nat)(r:Ty)(rows:List r.D):Bx→Bx
 | .mem cs=> .mem (cs.map (AV.fS b r rows))
 |x=>x
def St.fS(b:Nat)(σ:St):St:=
 match σ.bx[b]? with
 |some (.sl _ r rows)=>{ tm:=σ.tm.map (XV.fS b r rows),bx:=(σ.bx.set b .dead).map (Bx.fS b r rows) }
 |_=>σ
def Mq:List AP→List AV→St→St
 | .sl true _::l,.ref b []::xs,σ=>Mq l xs (σ.fS b)
 |_::l,_::xs,σ=>Mq l xs σ
 |_,_,σ=>σ
def Mo(bs:List BP):List (Nat×XP)→St→St
 |[],σ=>σ
 |(i,.c (.sl true r))::l,σ=>
  match σ.tm[i]? with
  |some (.c x)=>Mo bs l (Mq [.sl true r] [x] σ)
  |_=>Mo bs l σ
 |(i,.c (.ptr k _))::l,σ=>
  match bs[k]?,σ.tm[i]? with
  |some (.mem ps),some (.c (.GA b _))=>
   match σ.bx[b]? with
   |some (.mem cs)=>Mo bs l (Mq ps cs σ)
   |_=>Mo bs l σ
  |_,_=>Mo bs l σ
 |_::l,σ=>Mo bs l σ
def AV.kH:AV→Bool
 | .ref _ _| .XT _ _ _ _| .sl _ _ _| .nil=>true
 |_=>false
def St.forget(b j:Nat)(σ:St):St:=
 match σ.bx[b]? with
 |some (.mem cs)=>
  match cs[j]? with
  |some x=>if x.kH then{ σ with bx:=σ.bx.set b (.mem (cs.set j (.ref σ.bx.length [])))++[.dead] }else σ
  |none=>σ
 |_=>σ
def Tj(bs:List BP)(b:Nat):Nat→List AP→St→St
 |_,[],σ=>σ
 |j,p::l,σ=>Tj bs b (j+1) l (match p with
  | .ref q=>match bs[q]? with
   |some .gone=>σ.forget b j
   |_=>σ
  |_=>σ)
def Xx(bs:List BP):List (Nat×XP)→St→St
 |[],σ=>σ
 |(i,p)::l,σ=>Xx bs l (match p with
  | .c (.ptr k _)=>match bs[k]?,σ.tm[i]? with
   |some (.mem ps),some (.c (.GA b _))=>Tj bs b 0 ps σ
   |_,_=>σ
  |_=>σ)
def jump(nb:Nat)(s:B3)(f:s.V→Option Y)(σ:St):Option Y:=
 if nb≤s.E5.length then
  let σ:=Xx s.E5 s.C5 (Mo s.E5 s.C5 σ)
  (s.fit σ.bx.length (Pk 0 nb s.E5) σ.tm (s.opens σ.bx)).bind fun q=>f q.1
 else none
end
end Go.Fw
end
section
namespace Go.Fw
def B7(w:World)(b o:Nat)(cs:List Value):Prop:= ∀j v,cs[j]? =some v→w.cell? ⟨b,o+j,none⟩=some v
def Rd(w:World)(B:Nat→Prop):(t:Ty)→List Value→t.D→Prop
 | .int k,vs,x=>vs=[.int k x]
 | .bool,vs,x=>vs=[.bool x]
 | .str,vs,x=>vs=[.string ⟨x.toArray⟩]
 | .sl r,vs,x=> ∃a cap,vs=[.slice a (List.length x) cap]∧List.length x≤cap∧(List.length x=0∨ ∃b o,a=some ⟨b,o,none⟩∧B b∧
  ∀(i:Nat) (y:r.D),x[i]? =some y→ ∃cs,cs.length=r.n∧B7 w b (o+i*r.n) cs∧Rd w B r cs y)
 | .unit,vs,_=>vs=[]
 | .cons c r,vs,x=> ∃v l,vs=v::l∧Rd w B c [v] x.1∧Rd w B r l x.2
def oh(fr:ADF)(n:Nat):Prop:= ∀i,i<n→ ¬(fr.1≤i∧i<fr.2)
def mk:Ty→Nat
 | .int .u8=>0
 |_=>1
def Ow(w:World)(S:Nat→Prop):(d:Nat)→(t:Ty)→List Value→t.D→List Nat→Prop
 |0,.sl r,vs,x,F=>Rd w S (.sl r) vs x∧F=[]
 |d+1,.sl r,vs,x,F=> ∃a cap,vs=[.slice a (List.length x) cap]∧List.length x≤cap∧
  ((
   cap=0∧F=[])∨ ∃b o arr ty fr Fs,a=some ⟨b,o,none⟩∧w.heap[b]? =some (.cells arr ty fr)∧o+cap*r.n≤arr.size∧oh fr (arr.size+mk r)∧
   F=b::List.flatten Fs∧Fs.length=List.length x∧
   ∀(i:Nat) (y:r.D) (G:AB1),x[i]? =some y→Fs[i]? =some G→ ∃cs,cs.length=r.n∧B7 w b (o+i*r.n) cs∧Ow w S d r cs y G)
 |d,.cons c r,vs,x,F=> ∃v l F1 F2,vs=v::l∧F=F1++F2∧Ow w S d c [v] x.1 F1∧Ow w S d r l x.2 F2
 |_,.unit,vs,_,F=>vs=[]∧F=[]
 |_,.int k,vs,x,F=>vs=[.int k x]∧F=[]
 |_,.bool,vs,x,F=>vs=[.bool x]∧F=[]
 |_,.str,vs,x,F=>vs=[.string ⟨x.toArray⟩]∧F=[]
theorem br{w B}:∀{t:Ty} {vs x},Rd w B t vs x→vs.length=t.n
 | .int _,_,_,h=>by simp only[Rd]at h;subst h;rfl
 | .bool,_,_,h=>by simp only[Rd]at h;subst h;rfl
 | .str,_,_,h=>by simp only[Rd]at h;subst h;rfl
 | .sl _,_,_,h=>by simp only[Rd]at h;obtain⟨_,_,h,_⟩:=h;subst h;rfl
 | .unit,_,_,h=>by simp only[Rd]at h;subst h;rfl
 | .cons _ _,_,_,h=>by
  simp only[Rd]at h;obtain⟨_,_,rfl,_,h⟩:=h;simp[Ty.n,br h]
theorem Sr{w S}:∀{d} {t:Ty} {vs x F},Ow w S d t vs x F→vs.length=t.n
 |_,.int _,_,_,_,h=>by simp only[Ow]at h;rw[h.1];rfl
 |_,.bool,_,_,_,h=>by simp only[Ow]at h;rw[h.1];rfl
 |_,.str,_,_,_,h=>by simp only[Ow]at h;rw[h.1];rfl
 |0,.sl _,_,_,_,h=>by simp only[Ow]at h;exact br h.1
 |_+1,.sl _,_,_,_,h=>by simp only[Ow]at h;obtain⟨_,_,h,_⟩:=h;subst h;rfl
 |_,.unit,_,_,_,h=>by simp only[Ow]at h;rw[h.1];rfl
 |_,.cons _ _,_,_,_,h=>by
  simp only[Ow]at h;obtain⟨_,_,_,_,rfl,_,_,h⟩:=h;simp[Ty.n,Sr h]
theorem B7.of_block{w w':World}{b o:Nat}{cs:List Value}(h:B7 w b o cs)(hb:w'.heap[b]? =w.heap[b]?):B7 w' b o cs:=
 fun j v hj=>(World.cell?_of_block (a:=⟨b,o+j,none⟩) hb).trans (h j v hj)
theorem Dr{w w':World}{B B':Nat→Prop}(hB:∀b,B b→B' b)(hw:∀b,B b→w'.heap[b]? =w.heap[b]?):∀{t:Ty} {vs x},Rd w B t vs x→Rd w' B' t vs x
 | .int _,_,_,h=>by simpa only[Rd]using h
 | .bool,_,_,h=>by simpa only[Rd]using h
 | .str,_,_,h=>by simpa only[Rd]using h
 | .unit,_,_,h=>by simpa only[Rd]using h
 | .sl r,_,_,h=>by
  simp only[Rd]at h⊢;obtain⟨a,cap,h1,h2,h3⟩:=h;refine⟨a,cap,h1,h2,h3.imp id ?_⟩
  rintro⟨b,o,ha,hb,h⟩
  refine⟨b,o,ha,hB b hb,fun i y hy=> ?_⟩;obtain⟨cs,hl,hc,hr⟩:=h i y hy;exact⟨cs,hl,hc.of_block (hw b hb),Dr hB hw hr⟩
 | .cons _ _,_,_,h=>by
  simp only[Rd]at h⊢;obtain⟨v,l,h1,h2,h3⟩:=h;exact⟨v,l,h1,Dr hB hw h2,Dr hB hw h3⟩
theorem DB{w w':World}{S S':Nat→Prop}(hS:∀b,S b→S' b)(hw:∀b,S b→w'.heap[b]? =w.heap[b]?):
  ∀{d} {t:Ty} {vs x F},(∀b∈F,w'.heap[b]? =w.heap[b]?)→Ow w S d t vs x F→Ow w' S' d t vs x F
 |_,.int _,_,_,_,_,h=>by simpa only[Ow]using h
 |_,.bool,_,_,_,_,h=>by simpa only[Ow]using h
 |_,.str,_,_,_,_,h=>by simpa only[Ow]using h
 |_,.unit,_,_,_,_,h=>by simpa only[Ow]using h
 |0,.sl r,_,_,_,_,h=>by
  simp only[Ow]at h⊢;exact⟨Dr hS hw h.1,h.2⟩
 |d+1,.sl r,_,x,F,hF,h=>by
  simp only[Ow]at h⊢;obtain⟨a,cap,h1,h2,h3⟩:=h;refine⟨a,cap,h1,h2,h3.imp id ?_⟩
  rintro⟨b,o,arr,ty,fr,Fs,ha,hb,h4,h5,h6,h7,h⟩
  subst h6;have v8:=hF b (by simp);refine⟨b,o,arr,ty,fr,Fs,ha,v8.trans hb,h4,h5,rfl,h7,fun i y G hy hG=> ?_⟩;obtain⟨cs,hl,hc,hr⟩:=h i y G hy hG;refine⟨cs,hl,hc.of_block v8,DB hS hw (fun c hc=>hF c ?_) hr⟩;exact ANM _ (AK9.2 ⟨G,AKh hG,hc⟩)
 |_,.cons _ _,_,_,_,hF,h=>by
  simp only[Ow]at h⊢;obtain⟨v,l,F1,F2,h1,h2,h3,h4⟩:=h;subst h2;exact⟨v,l,F1,F2,h1,rfl,DB hS hw (fun c hc=>hF c (by simp[hc])) h3,DB hS hw (fun c hc=>hF c (by simp[hc])) h4⟩
theorem Uh{w:World}{S:Nat→Prop}:∀{d} {t:Ty} {vs x F},Ow w S d t vs x F→Rd w (fun b=>S b∨b∈F) t vs x
 |_,.int _,_,_,_,h=>by simp only[Ow]at h;simp only[Rd];exact h.1
 |_,.bool,_,_,_,h=>by simp only[Ow]at h;simp only[Rd];exact h.1
 |_,.str,_,_,_,h=>by simp only[Ow]at h;simp only[Rd];exact h.1
 |_,.unit,_,_,_,h=>by simp only[Ow]at h;simp only[Rd];exact h.1
 |0,.sl r,_,_,_,h=>by
  simp only[Ow]at h;exact Dr (fun b hb=> .inl hb) (fun _ _=>rfl) h.1
 |d+1,.sl r,_,x,F,h=>by
  simp only[Ow]at h;simp only[Rd];obtain⟨a,cap,h1,h2,h3⟩:=h;refine⟨a,cap,h1,h2,?_⟩;rcases h3 with⟨hc,_⟩|⟨b,o,arr,ty,fr,Fs,ha,hb,h4,h5,h6,h7,h⟩
  ·exact .inl (by omega)
  ·refine .inr ⟨b,o,ha,.inr (by simp[h6]),fun i y hy=> ?_⟩
   have hi:i<Fs.length:=by
    have:=(AIE.1 hy).1;omega
   obtain⟨cs,hl,hc,hr⟩:=h i y Fs[i] hy (AIH hi);refine⟨cs,hl,hc,Dr ?_ (fun _ _=>rfl) (Uh hr)⟩;intro c ZL;rcases ZL with ZL|ZL
   ·exact .inl ZL
   ·exact .inr (by rw[h6];exact ANM _ (AK9.2 ⟨_,AKp hi,ZL⟩))
 |_,.cons _ _,_,_,_,h=>by
  simp only[Ow]at h;simp only[Rd];obtain⟨v,l,F1,F2,h1,h2,h3,h4⟩:=h;subst h2;refine⟨v,l,h1,Dr ?_ (fun _ _=>rfl) (Uh h3),Dr ?_ (fun _ _=>rfl) (Uh h4)⟩
  ·intro c hc;exact hc.imp id (by simp_all)
  ·intro c hc;exact hc.imp id (by simp_all)
theorem Hr{w:World}{S:Nat→Prop}:∀{d d'} {t:Ty} {vs x F},d≤d'→Ow w S d' t vs x F→
  ∃F1 F2,F.Perm (F1++F2)∧Ow w (fun b=>S b∨b∈F2) d t vs x F1
 |_,_,.int _,_,_,_,_,h=>by simp only[Ow]at h⊢;exact⟨[],[],by rw[h.2];simp,h.1,rfl⟩
 |_,_,.bool,_,_,_,_,h=>by simp only[Ow]at h⊢;exact⟨[],[],by rw[h.2];simp,h.1,rfl⟩
 |_,_,.str,_,_,_,_,h=>by simp only[Ow]at h⊢;exact⟨[],[],by rw[h.2];simp,h.1,rfl⟩
 |_,_,.unit,_,_,_,_,h=>by simp only[Ow]at h⊢;exact⟨[],[],by rw[h.2];simp,h.1,rfl⟩
 |0,d',.sl r,_,x,F,_,h=>by
  refine⟨[],F,by simp,?_⟩;simp only[Ow];exact⟨Uh h,trivial⟩
 |d+1,0,.sl r,_,x,F,hd,h=>by omega
 |d+1,d'+1,.sl r,_,x,F,hd,h=>by
  simp only[Ow]at h⊢;obtain⟨a,cap,h1,h2,h3⟩:=h;rcases h3 with⟨hc,hF⟩|⟨b,o,arr,ty,fr,Fs,ha,hb,h4,h5,h6,h7,h⟩
  ·exact⟨[],[],by simp[hF],a,cap,h1,h2,.inl ⟨hc,rfl⟩⟩
  ·have key:∀(n:Nat) (Fs:List AB1) (y:List r.D),Fs.length=n→y.length=n→(∀(i:Nat) (z:r.D) (G:AB1),y[i]? =some z→Fs[i]? =some G→ ∃cs,cs.length=r.n∧B7 w b (o+i*r.n) cs∧Ow w S d' r cs z G)→
     ∃(Gs:List AB1) (F2:AB1),Fs.flatten.Perm (Gs.flatten++F2)∧Gs.length=n∧ ∀(i:Nat) (z:r.D) (G:AB1),y[i]? =some z→Gs[i]? =some G→ ∃cs,cs.length=r.n∧B7 w b (o+i*r.n) cs∧Ow w (fun b=>S b∨b∈F2) d r cs z G:=by
    intro n
    induction n with
    |zero=>
     intro Fs y hF hy _;obtain rfl:=AK2 hF;exact⟨[],[],by simp,rfl,fun i z G _ hG=>by simp at hG⟩
    |succ n ih=>
     intro Fs y hF hy hh;obtain⟨Fs',G0,rfl⟩:∃l a,Fs=l++[a]:=⟨Fs.dropLast,Fs.getLast (by intro e;simp[e]at hF),(List.dropLast_concat_getLast _).symm⟩;obtain⟨y',z0,rfl⟩:∃l a,y=l++[a]:=⟨y.dropLast,y.getLast (by intro e;simp[e]at hy),(List.dropLast_concat_getLast _).symm⟩;simp only[AKE,AJ0,AKu]at hF hy;obtain⟨Gs,F2,hp,hl,hg⟩:=ih Fs' y' (by omega) (by omega) (fun i z G hz hG=>hh i z G
      (by rw[AJI (AIE.1 hz).1];exact hz) (by rw[AJI (AIE.1 hG).1];exact hG))
     obtain⟨cs,Xp,hc,ho⟩:=hh n z0 G0 (by rw[AKi (by omega)];simp[show n-y'.length=0 by omega]) (by rw[AKi (by omega)];simp[show n-Fs'.length=0 by omega]);obtain⟨H1,H2,hhp,hho⟩:=Hr (d:=d) (d':=d') (by omega) ho;refine⟨Gs++[H1],F2++H2,?_,by simp[hl],?_⟩
     ·simp only[AL8,ALO,AOD,AKb]
      refine(hp.append hhp).trans ?_
      rw[AIg,AIg];refine AK6 _ ?_
      rw[←AIg,←AIg];exact AKs _ AK7
     ·intro i z G hz hG
      by_cases hi:i<n
      ·rw[AJI (by omega)]at hz hG
       obtain⟨cs,e1,e2,e3⟩:=hg i z G hz hG;exact⟨cs,e1,e2,DB (by intro c hc;exact hc.imp id (by simp_all)) (fun _ _=>rfl) (fun _ _=>rfl) e3⟩
      ·have:i=n:=by
        have:=(AIE.1 hz).1;simp at this;omega
       subst this;rw[AKi (by omega)]at hz hG;simp[show i-y'.length=0 by omega,show i-Gs.length=0 by omega]at hz hG;subst hz hG;exact⟨cs,Xp,hc,DB (by intro c hc;exact hc.imp id (by simp_all)) (fun _ _=>rfl) (fun _ _=>rfl) hho⟩
   obtain⟨Gs,F2,hp,hl,hg⟩:=key _ Fs x h7 rfl h;refine⟨b::Gs.flatten,F2,?_,a,cap,h1,h2,.inr ⟨b,o,arr,ty,fr,Gs,ha,hb,h4,h5,rfl,hl,hg⟩⟩;rw[h6];exact List.Perm.cons _ hp
 |d,d',.cons _ _,_,_,_,hd,h=>by
  simp only[Ow]at h⊢;obtain⟨v,l,F1,F2,h1,h2,h3,h4⟩:=h;obtain⟨A1,A2,pa,oa⟩:=Hr hd h3;obtain⟨B1,B2,pb,ob⟩:=Hr hd h4;refine⟨A1++B1,A2++B2,?_,v,l,A1,B1,h1,rfl,DB (by intro c hc;exact hc.imp id (by simp_all)) (fun _ _=>rfl) (fun _ _=>rfl) oa,DB (by intro c hc;exact hc.imp id (by simp_all)) (fun _ _=>rfl) (fun _ _=>rfl) ob⟩;rw[h2];refine(pa.append pb).trans ?_
  rw[AIg,AIg];refine AK6 _ ?_
  rw[←AIg,←AIg];exact AKs _ AK7
def RB(w:World):(t:Ty)→List Value→t.D→Nat→Prop
 | .sl r,vs,x,c=> ∃b o len cap,vs=[.slice (some ⟨b,o,none⟩) len cap]∧0<List.length x∧
  (c=b∨ ∃(i:Nat) (y:r.D) (cs:List Value),x[i]? =some y∧cs.length=r.n∧B7 w b (o+i*r.n) cs∧RB w r cs y c)
 | .cons c r,vs,x,d=> ∃v l,vs=v::l∧(RB w c [v] x.1 d∨RB w r l x.2 d)
 |_,_,_,_=>False
theorem B7.unique{w:World}{b o:Nat}{cs ds:List Value}(h:B7 w b o cs)(k:B7 w b o ds)(hl:cs.length=ds.length):cs=ds:=by
 apply List.ext_getElem hl;intro i h1 h2;have e1:=h i _ (AIH h1);have e2:=k i _ (AIH h2);rw[e1]at e2;exact AN5 e2
theorem lS{w:World}{B:Nat→Prop}{c:Nat}:∀{t:Ty} {vs x},Rd w B t vs x→RB w t vs x c→B c
 | .int _,_,_,_,h=>by simp[RB]at h
 | .bool,_,_,_,h=>by simp[RB]at h
 | .str,_,_,_,h=>by simp[RB]at h
 | .unit,_,_,_,h=>by simp[RB]at h
 | .sl r,_,x,h,k=>by
  simp only[Rd]at h;simp only[RB]at k;obtain⟨a,cap,rfl,_,h⟩:=h;obtain⟨b,o,len,cap',e,hl,k⟩:=k;simp only[AK_,Value.slice.injEq,AL0]at e;obtain⟨rfl,rfl,rfl⟩:=e;rcases h with h|⟨b',o',e,hb,h⟩
  ·omega
  simp only[AIK,Addr.mk.injEq,AL0]at e;obtain⟨rfl,rfl⟩:=e;rcases k with rfl|⟨i,y,cs,hy,Xp,hca,k⟩
  ·exact hb
  ·obtain⟨ds,d1,d2,d3⟩:=h i y hy
   have:=hca.unique d2 (by omega);subst this;exact lS d3 k
 | .cons _ _,_,_,h,k=>by
  simp only[Rd]at h;simp only[RB]at k;obtain⟨v,l,rfl,h1,h2⟩:=h;obtain⟨v',l',e,k⟩:=k;cases e;exact k.elim (lS h1) (lS h2)
theorem fO{w w':World}{c:Nat}:∀{t:Ty} {vs x},(∀d,RB w t vs x d→w'.heap[d]? =w.heap[d]?)→RB w t vs x c→RB w' t vs x c
 | .int _,_,_,_,h=>by simp[RB]at h
 | .bool,_,_,_,h=>by simp[RB]at h
 | .str,_,_,_,h=>by simp[RB]at h
 | .unit,_,_,_,h=>by simp[RB]at h
 | .sl r,_,x,h,k=>by
  simp only[RB]at h k⊢;obtain⟨b,o,len,cap,e,hl,k⟩:=k;refine⟨b,o,len,cap,e,hl,?_⟩;rcases k with rfl|⟨i,y,cs,hy,Xp,hca,k⟩
  ·exact .inl rfl
  ·have hb:=h b ⟨b,o,len,cap,e,hl,.inl rfl⟩
   exact .inr ⟨i,y,cs,hy,Xp,hca.of_block hb,fO (fun d hd=>h d ⟨b,o,len,cap,e,hl,.inr ⟨i,y,cs,hy,Xp,hca,hd⟩⟩) k⟩
 | .cons _ _,_,_,h,k=>by
  simp only[RB]at h k⊢;obtain⟨v,l,e,k⟩:=k;refine⟨v,l,e,k.elim (fun k=> .inl (fO (fun d hd=>h d ⟨v,l,e,.inl hd⟩) k)) (fun k=> .inr (fO (fun d hd=>h d ⟨v,l,e,.inr hd⟩) k))⟩
end Go.Fw
end
section
namespace Go.Fw
def Bw{α β:Type}(R:α→β→Prop):List α→List β→Prop
 |[],[]=>True
 |a::l,b::m=>R a b∧Bw R l m
 |_,_=>False
theorem Bw.len{α β:Type}{R:α→β→Prop}:∀{l:List α} {m:List β},Bw R l m→l.length=m.length
 |[],[],_=>rfl
 |_::_,_::_,h=>by simp[Bw.len h.2]
theorem Bw.get{α β:Type}{R:α→β→Prop}:∀{l:List α} {m:List β} {i:Nat} {a:α},Bw R l m→l[i]? =some a→ ∃b,m[i]? =some b∧R a b
 |_::_,_::_,0,a,h,e=>by simp at e;subst e;exact⟨_,rfl,h.1⟩
 |_::_,_::_,i+1,a,h,e=>by
  obtain⟨b,hb,hr⟩:=Bw.get (i:=i) h.2 (by simpa using e);exact⟨b,by simpa using hb,hr⟩
 |[],[],_,_,_,e=>by simp at e
theorem Bw.imp{α β:Type}{R S:α→β→Prop}(h:∀a b,R a b→S a b):∀{l:List α} {m:List β},Bw R l m→Bw S l m
 |[],[],_=>trivial
 |_::_,_::_,k=>⟨h _ _ k.1,Bw.imp h k.2⟩
structure Env where
 GB:Nat→Nat
 GQ:Nat→Value
 T:Nat→Prop
 S:Nat→Prop
def HP(w:World):Value→List dK→Option Value
 |h,[]=>some h
 | .slice (some a) _ _,s::p=>
  match w.cell? ⟨a.block,a.off+s.i*s.sz+s.j,none⟩with
  |some h=>HP w h p
  |none=>none
 |_,_::_=>none
def CX:(r:Ty)→List r.D→List dK→Prop
 |_,_,[]=>True
 |r,rows,s::p=>s.i<rows.length∧s.sz=r.n∧
  match Am r s.j (rowAt r rows s.i)with
  |some ⟨.sl q,x⟩=>CX q x p
  |_=>False
def N5(sz off n:Nat)(a:Option Addr)(cap:Nat):Value:=
 .slice (if cap=off then a else a.map (·.add (off*sz))) n (cap-off)
def isSlice:Value→Bool
 | .slice .. =>true
 |_=>false
def XM:Value→Bool
 | .pointer (some ⟨_,_,none⟩)=>true
 |_=>false
def RA(E:Env)(w:World)(q:(r:Ty)×r.D)(p:Value):Prop:= ∃bb o cs,p= .pointer (some ⟨bb,o,none⟩)∧E.T bb∧cs.length=q.1.n∧B7 w bb o cs∧Rd w E.T q.1 cs q.2
def VR(E:Env)(w:World)(vw:List Bx):AV→Value→Prop
 | .v t x,v=>t.scalar=true∧Rd w (fun _=>False) t [v] x
 | .sl s r x,v=>Rd w (if s then E.S else E.T) (.sl r) [v] x
 | .nil,v=>v= .slice none 0 0
 | .ref b p,v=>isSlice v=true∧match vw[b]? with
  |some (.sl _ r rows)=>CX r rows p∧(∃q,E6 r rows p=some q)∧HP w (E.GQ b) p=some v
  |some _=>True
  |none=>False
 | .XT b p off n,v=>isSlice v=true∧match vw[b]? with
  |some (.sl _ r rows)=>CX r rows p∧ ∃q ys a len cap,E6 r rows p=some ⟨q,ys⟩∧off+n≤List.length ys∧HP w (E.GQ b) p=some (.slice a len cap)∧v=N5 q.n off n a cap
  |some _=>True
  |none=>False
 | .GA b j,v=>b<vw.length∧v= .pointer (some ⟨E.GB b,j,none⟩)
 | .HW b p i sz j,v=>XM v=true∧match vw[b]? with
  |some (.sl _ r rows)=>CX r rows p∧ ∃q ys bb o len cap,E6 r rows p=some ⟨q,ys⟩∧i<List.length ys∧HP w (E.GQ b) p=some (.slice (some ⟨bb,o,none⟩) len cap)∧v= .pointer (some ⟨bb,o+i*sz+j,none⟩)
  |some _=>True
  |none=>False
 | .K4 s r x j,v=> ∃bb o cs,v= .pointer (some ⟨bb,o+j,none⟩)∧(if s then E.S else E.T) bb∧cs.length=r.n∧B7 w bb o cs∧Rd w (if s then E.S else E.T) r cs x
 | .fn f Hg,v=>(∀b∈Hg,b<vw.length)∧v= .func (.func f) #[] (Hg.map fun b=>Value.pointer (some ⟨E.GB b,0,none⟩)).toArray
 | .kJ f rows,v=> ∃ps:List Value,v= .func (.func f) #[] ps.toArray∧Bw (RA E w) rows ps
 | .oX,v=>v= .pointer none
 | .undef,_=>True
def bR(E:Env)(w:World)(vw:List Bx)(l:List AV)(vs:List Value):Prop:=Bw (VR E w vw) l vs
def TR(E:Env)(w:World)(vw:List Bx):AV ⊕ List AV→Value→Prop
 | .inl x,v=>VR E w vw x v
 | .inr q,v=> ∃vs,v= .agg vs∧bR E w vw q vs.toList
def XR(E:Env)(w:World)(vw:List Bx):XV→Value→Prop
 | .c x,v=>VR E w vw x v
 | .agg l,v=> ∃vs,v= .agg vs∧bR E w vw l vs.toList
 | .Kv l,v=> ∃vs,v= .tuple vs∧Bw (TR E w vw) l vs.toList
def gC(E:Env)(w:World)(vw:List Bx)(k:Nat):Bx→List Nat→Prop
 | .mem cs,F=>F=[E.GB k]∧ ∃arr ty fr,w.heap[E.GB k]? =some (.cells arr ty fr)∧oh fr (arr.size+1)∧bR E w vw cs arr.toList
 | .sl d r rows,F=>1≤d∧Ow w E.S d (.sl r) [E.GQ k] rows F
 | .dead,F=>F=[]
structure Sep (E:Env) (w:World) (F:AB1):Prop where
 nodup:F.Nodup
 free:∀c∈F,¬E.T c
 lt:∀c∈F,c<w.heap.size
 st:∀c,E.S c→E.T c
 ZB:∀c,E.T c→c<w.heap.size
def KO(E:Env)(w:World)(vw bx:List Bx)(Fs:List AB1):Prop:=
 Fs.length=bx.length∧ ∀k B F,bx[k]? =some B→Fs[k]? =some F→gC E w vw k B F
def CR(E:Env)(w:World)(vw bx:List Bx)(G:AB1):Prop:=
 ∃Fs,KO E w vw bx Fs∧Sep E w (Fs.flatten++G)
structure Le (E E':Env):Prop where
 GB:E'.GB=E.GB
 GQ:E'.GQ=E.GQ
 T:∀c,E.T c→E'.T c
 S:∀c,E.S c→E'.S c
 Tof:∀c,E'.T c→E.T c∨E'.S c
 qj:∀c,E'.S c→E.S c∨ ¬E.T c
theorem Le.refl(E:Env):Le E E:=⟨rfl,rfl,fun _ h=>h,fun _ h=>h,fun _ h=> .inl h,fun _ h=> .inl h⟩
theorem Le.trans{E E' vZ:Env}(h:Le E E')(k:Le E' vZ):Le E vZ:=
 ⟨k.GB.trans h.GB,k.GQ.trans h.GQ,fun c hc=>k.T c (h.T c hc),fun c hc=>k.S c (h.S c hc),
  fun c hc=>(k.Tof c hc).elim (fun h' =>(h.Tof c h').imp id (k.S c)) .inr,
  fun c hc=>(k.qj c hc).elim (h.qj c) (fun h' => .inr fun ht=>h' (h.T c ht))⟩
theorem Ye{w B}:∀{r:Ty} {cs x j t y},Rd w B r cs x→Am r j x=some ⟨t,y⟩→ ∃v,cs[j]? =some v∧Rd w B t [v] y
 | .cons c r,cs,x,0,t,y,h,e=>by
  simp only[Rd]at h;obtain⟨v,l,rfl,h1,h2⟩:=h;simp only[Am,AIK,AKo]at e;obtain⟨rfl,e⟩:=e;obtain rfl:=ALA e;exact⟨v,rfl,h1⟩
 | .cons c r,cs,x,j+1,t,y,h,e=>by
  simp only[Rd]at h;obtain⟨v,l,rfl,h1,h2⟩:=h;simp only[Am]at e;obtain⟨u,hu,hr⟩:=Ye h2 e;exact⟨u,by simpa using hu,hr⟩
 | .int k,cs,x,0,t,y,h,e=>by
  simp only[Am,AIK,AKo]at e;obtain⟨rfl,e⟩:=e;obtain rfl:=ALA e;simp only[Rd]at h;subst h;exact⟨_,rfl,by simp only[Rd]⟩
 | .bool,cs,x,0,t,y,h,e=>by
  simp only[Am,AIK,AKo]at e;obtain⟨rfl,e⟩:=e;obtain rfl:=ALA e;simp only[Rd]at h;subst h;exact⟨_,rfl,by simp only[Rd]⟩
 | .str,cs,x,0,t,y,h,e=>by
  simp only[Am,AIK,AKo]at e;obtain⟨rfl,e⟩:=e;obtain rfl:=ALA e;simp only[Rd]at h;subst h;exact⟨_,rfl,by simp only[Rd]⟩
 | .sl r,cs,x,0,t,y,h,e=>by
  simp only[Am,AIK,AKo]at e;obtain⟨rfl,e⟩:=e;obtain rfl:=ALA e;have h':=h;simp only[Rd]at h;obtain⟨a,cap,rfl,_⟩:=h;exact⟨_,rfl,h'⟩
 | .unit,_,_,_,_,_,_,e=>by simp[Am]at e
 | .int _,_,_,_+1,_,_,_,e=>by simp[Am]at e
 | .bool,_,_,_+1,_,_,_,e=>by simp[Am]at e
 | .str,_,_,_+1,_,_,_,e=>by simp[Am]at e
 | .sl _,_,_,_+1,_,_,_,e=>by simp[Am]at e
theorem Nj{r:Ty}{rows:List r.D}{i:Nat}(h:i<rows.length):rows[i]? =some (rowAt r rows i):=by
 simp[rowAt,h]
theorem e_{w:World}{B:Nat→Prop}:∀{p:List dK} {r:Ty} {h:Value} {rows:List r.D} {q:Ty} {ys:List q.D},
  Rd w B (.sl r) [h] rows→CX r rows p→E6 r rows p=some ⟨q,ys⟩→
  ∃h',(∀w':World,(∀b,B b→w'.heap[b]? =w.heap[b]?)→HP w' h p=some h')∧Rd w B (.sl q) [h'] ys
 |[],r,h,rows,q,ys,hr,_,hg=>by
  simp only[E6,AIK,AKo]at hg;obtain⟨rfl,e⟩:=hg;obtain rfl:=ALA e;exact⟨h,fun w' _=>by cases h<;>rfl,hr⟩
 |s::p,r,h,rows,q,ys,hr,hp,hg=>by
  simp only[CX]at hp;obtain⟨hi,Mm,hp⟩:=hp;simp only[E6]at hg;simp only[Rd]at hr;obtain⟨a,cap,hh,_,hr⟩:=hr;obtain rfl:=(List.cons.inj hh).1;rcases hr with hr|⟨b,o,rfl,hb,hr⟩
  ·omega
  obtain⟨cs,hl,hc,hrow⟩:=hr s.i _ (Nj hi);split at hg
  ·rename_i q' x' Xq
   rw[Xq]at hp;obtain⟨v,hv,hrv⟩:=Ye hrow Xq;obtain⟨h',hh',Ta⟩:=e_ hrv hp hg;refine⟨h',fun w' hw' => ?_,Ta⟩;simp only[HP];have Un:w'.cell? ⟨b,o+s.i*s.sz+s.j,none⟩=some v:=by
    rw[Mm];exact(World.cell?_of_block (a:=⟨b,_,none⟩) (hw' b hb)).trans (hc _ _ hv)
   rw[Un];exact hh' w' hw'
  ·cases hg
theorem CE{w:World}{h:Value}:HP w h []=some h:=by cases h<;>rfl
structure PI (E:Env) (w:World) (vw:List Bx) (E':Env) (w':World) (vw':List Bx):Prop where
 len:vw.length≤vw'.length
 GB:∀b,b<vw.length→E'.GB b=E.GB b
 T:∀b,E.T b→E'.T b
 S:∀b,E.S b→E'.S b
 st:∀b,E.S b→E.T b
 heap:∀b,E.T b→w'.heap[b]? =w.heap[b]?
 box:∀b d r rows,b<vw.length→vw'[b]? =some (.sl d r rows)→ ∃d0 Na,vw[b]? =some (.sl d0 r Na)∧
  ∀p,CX r Na p→ ∀q ys,E6 r Na p=some ⟨q,ys⟩→CX r rows p∧(∃gv,E6 r rows p=some ⟨q,gv⟩∧List.length gv=List.length ys)∧
   ∀h,HP w (E.GQ b) p=some h→HP w' (E'.GQ b) p=some h
theorem MQ{α:Type}{l l':List α}{b:Nat}{x:α}(h:l.length≤l'.length)(e:l[b]? =some x):∃y,l'[b]? =some y:=
 ⟨l'[b]'(ALH (AIE.1 e).1 h),AIH _⟩
theorem EW{E E':Env}{w w':World}{vw vw':List Bx}(k:PI E w vw E' w' vw'):∀{x:AV} {v:Value},VR E w vw x v→VR E' w' vw' x v:=by
 intro x v h;cases x with
 |v t x=>exact⟨h.1,Dr (fun _ h=>h) (fun _ h=>h.elim) h.2⟩
 |sl s r x=>
  simp only[VR]at h⊢;cases s with
  |false=>exact Dr k.T k.heap (by simpa using h)
  |true=>exact Dr k.S (fun b hb=>k.heap b (k.st b hb)) (by simpa using h)
 |nil=>exact h
 |ref b p=>
  simp only[VR]at h⊢;obtain⟨h0,h⟩:=h;refine⟨h0,?_⟩;cases e:vw[b]? with
  |none=>rw[e]at h;exact h.elim
  |some B=>
   rw[e]at h;have Dj:=(AIE.1 e).1;obtain⟨B',e'⟩:=MQ k.len e;rw[e'];cases B' with
   |mem cs=>trivial
   |dead=>trivial
   |sl d r rows=>
    obtain⟨d0,Na,e0,hk⟩:=k.box b d r rows Dj e';rw[e]at e0;cases e0;simp only at h;obtain⟨hp,⟨⟨q,ys⟩,hg⟩,hh⟩:=h;obtain⟨k1,⟨gv,k2,_⟩,k3⟩:=hk p hp q ys hg;exact⟨k1,⟨_,k2⟩,k3 _ hh⟩
 |XT b p off n=>
  simp only[VR]at h⊢;obtain⟨h0,h⟩:=h;refine⟨h0,?_⟩;cases e:vw[b]? with
  |none=>rw[e]at h;exact h.elim
  |some B=>
   rw[e]at h;have Dj:=(AIE.1 e).1;obtain⟨B',e'⟩:=MQ k.len e;rw[e'];cases B' with
   |mem cs=>trivial
   |dead=>trivial
   |sl d r rows=>
    obtain⟨d0,Na,e0,hk⟩:=k.box b d r rows Dj e';rw[e]at e0;cases e0;simp only at h;obtain⟨hp,q,ys,a,len,cap,hg,hl,hh,hv⟩:=h;obtain⟨k1,⟨gv,k2,k4⟩,k3⟩:=hk p hp q ys hg;exact⟨k1,q,gv,a,len,cap,k2,by omega,k3 _ hh,hv⟩
 |GA b j=>exact⟨ALH h.1 k.len,by rw[h.2,k.GB b h.1]⟩
 |HW b p i sz j=>
  simp only[VR]at h⊢;obtain⟨h0,h⟩:=h;refine⟨h0,?_⟩;cases e:vw[b]? with
  |none=>rw[e]at h;exact h.elim
  |some B=>
   rw[e]at h;have Dj:=(AIE.1 e).1;obtain⟨B',e'⟩:=MQ k.len e;rw[e'];cases B' with
   |mem cs=>trivial
   |dead=>trivial
   |sl d r rows=>
    obtain⟨d0,Na,e0,hk⟩:=k.box b d r rows Dj e';rw[e]at e0;cases e0;simp only at h;obtain⟨hp,q,ys,bb,o,len,cap,hg,hl,hh,hv⟩:=h;obtain⟨k1,⟨gv,k2,k4⟩,k3⟩:=hk p hp q ys hg;exact⟨k1,q,gv,bb,o,len,cap,k2,by omega,k3 _ hh,hv⟩
 |K4 s r x j=>
  simp only[VR]at h⊢;obtain⟨bb,o,cs,hv,hb,hl,hc,hr⟩:=h;cases s with
  |false=>exact⟨bb,o,cs,hv,k.T bb (by simpa using hb),hl,hc.of_block (k.heap bb (by simpa using hb)),Dr k.T k.heap (by simpa using hr)⟩
  |true=>exact⟨bb,o,cs,hv,k.S bb (by simpa using hb),hl,hc.of_block (k.heap bb (k.st bb (by simpa using hb))),Dr k.S (fun b hb=>k.heap b (k.st b hb)) (by simpa using hr)⟩
 |fn f Hg=>
  refine⟨fun b hb=>ALH (h.1 b hb) k.len,?_⟩;rw[h.2];congr 2;exact ANx fun b hb=>by rw[k.GB b (h.1 b hb)]
 |kJ f rows=>
  obtain⟨ps,hv,h⟩:=h;exact⟨ps,hv,h.imp fun q p ⟨bb,o,cs,h1,h2,h3,h4,h5⟩=>⟨bb,o,cs,h1,k.T bb h2,h3,h4.of_block (k.heap bb h2),Dr k.T k.heap h5⟩⟩
 |oX=>exact h
 |undef=>trivial
theorem L9{E E':Env}{w w':World}{vw vw':List Bx}(k:PI E w vw E' w' vw'):∀{x:XV} {v:Value},XR E w vw x v→XR E' w' vw' x v
 | .c _,_,h=>EW k h
 | .agg _,_,⟨vs,hv,h⟩=>⟨vs,hv,h.imp fun _ _ h=>EW k h⟩
 | .Kv l,_,⟨vs,hv,h⟩=>⟨vs,hv,h.imp fun
  | .inl _,_,h=>EW k h
  | .inr _,_,⟨ws,hw,h⟩=>⟨ws,hw,h.imp fun _ _ h=>EW k h⟩⟩
theorem PI.refl{E:Env}{w:World}{vw:List Bx}(st:∀b,E.S b→E.T b):PI E w vw E w vw:=
 ⟨ALE _,fun _ _=>rfl,fun _ h=>h,fun _ h=>h,st,fun _ _=>rfl,fun b d r rows _ h=>⟨d,rows,h,fun p hp q ys hg=>⟨hp,⟨ys,hg,rfl⟩,fun _ h=>h⟩⟩⟩
theorem PI.trans{E E' vZ:Env}{w w' w'':World}{vw vw' AIz:List Bx}(k:PI E w vw E' w' vw')(k':PI E' w' vw' vZ w'' AIz):PI E w vw vZ w'' AIz where
 len:=ALM k.len k'.len
 GB:=fun b hb=>(k'.GB b (ALH hb k.len)).trans (k.GB b hb)
 T:=fun b h=>k'.T b (k.T b h)
 S:=fun b h=>k'.S b (k.S b h)
 st:=k.st
 heap:=fun b h=>(k'.heap b (k.T b h)).trans (k.heap b h)
 box:=fun b d r rows hb h=>by
  obtain⟨d1,ACq,h1,k1⟩:=k'.box b d r rows (ALH hb k.len) h;obtain⟨d0,Na,h0,k0⟩:=k.box b d1 r ACq hb h1;refine⟨d0,Na,h0,fun p hp q ys hg=> ?_⟩;obtain⟨a1,⟨ys1,a2,a3⟩,a4⟩:=k0 p hp q ys hg;obtain⟨b1,⟨ys2,b2,b3⟩,b4⟩:=k1 p a1 q ys1 a2;exact⟨b1,⟨ys2,b2,b3.trans a3⟩,fun h hh=>b4 h (a4 h hh)⟩
theorem lx{w w':World}{S:Nat→Prop}{d:Nat}{r:Ty}{h:Value}{rows:List r.D}{F:AB1}(ho:Ow w S d (.sl r) [h] rows F)
  (hS:∀b,S b→w'.heap[b]? =w.heap[b]?) (hF:∀b∈F,w'.heap[b]? =w.heap[b]?) {p:List dK} (hp:CX r rows p) {q:Ty} {ys:List q.D} (hg:E6 r rows p=some ⟨q,ys⟩)
  {h':Value} (hh:HP w h p=some h'):HP w' h p=some h':=by
 obtain⟨h1,k,_⟩:=e_ (Uh ho) hp hg;have e1:=k w (fun _ _=>rfl);rw[hh]at e1;cases e1;exact k w' fun b hb=>hb.elim (hS b) (hF b)
end Go.Fw
end
section
namespace Go.Fw
theorem Bw.set{α β:Type}{R:α→β→Prop}:∀{l:List α} {m:List β} {i:Nat} {a:α} {b:β},Bw R l m→R a b→Bw R (l.set i a) (m.set i b)
 |[],[],_,_,_,_,_=>trivial
 |_::_,_::_,0,_,_,h,r=>⟨r,h.2⟩
 |_::_,_::_,i+1,_,_,h,r=>⟨h.1,Bw.set h.2 r⟩
theorem Bw.append{α β:Type}{R:α→β→Prop}:∀{l:List α} {m:List β} {l':List α} {m':List β},Bw R l m→Bw R l' m'→Bw R (l++l') (m++m')
 |[],[],_,_,_,h=>h
 |_::_,_::_,_,_,h,k=>⟨h.1,Bw.append h.2 k⟩
theorem Bw.I7{α β γ:Type}{R:α→β→Prop}{S:γ→β→Prop}(f:α→γ)(h:∀a b,R a b→S (f a) b):∀{l:List α} {m:List β},Bw R l m→Bw S (l.map f) m
 |[],[],_=>trivial
 |_::_,_::_,k=>⟨h _ _ k.1,Bw.I7 f h k.2⟩
theorem Bw.drop{α β:Type}{R:α→β→Prop}:∀{l:List α} {m:List β} (n:Nat),Bw R l m→Bw R (l.drop n) (m.drop n)
 |_,_,0,h=>h
 |[],[],_+1,_=>trivial
 |_::_,_::_,n+1,h=>Bw.drop n h.2
theorem Bw.take{α β:Type}{R:α→β→Prop}:∀{l:List α} {m:List β} (n:Nat),Bw R l m→Bw R (l.take n) (m.take n)
 |[],[],0,_=>trivial
 |_::_,_::_,0,_=>trivial
 |[],[],_+1,_=>trivial
 |_::_,_::_,n+1,h=>⟨h.1,Bw.take n h.2⟩
structure Yg (E0:Env) (w0:World) (E:Env) (w:World):Prop where
 T:∀c,E0.T c→E.T c
 S:∀c,E0.S c→E.S c
 Tof:∀c,E.T c→E0.T c∨E.S c
 qj:∀c,E.S c→E0.S c∨ ¬E0.T c
 heap:∀c,E0.T c→w.heap[c]? =w0.heap[c]?
 os:w.os=w0.os
 tape:w.tape=w0.tape
 output:w.output=w0.output
 size:w0.heap.size≤w.heap.size
theorem Yg.refl(E:Env)(w:World):Yg E w E w:=⟨fun _ h=>h,fun _ h=>h,fun _ h=> .inl h,fun _ h=> .inl h,fun _ _=>rfl,rfl,rfl,rfl,ALE _⟩
theorem Yg.trans{E E' vZ:Env}{w w' w'':World}(h:Yg E w E' w')(k:Yg E' w' vZ w''):Yg E w vZ w'':=
 ⟨fun c hc=>k.T c (h.T c hc),fun c hc=>k.S c (h.S c hc),fun c hc=>(k.Tof c hc).elim (fun h' =>(h.Tof c h').imp id (k.S c)) .inr,
  fun c hc=>(k.qj c hc).elim (h.qj c) (fun h' => .inr fun ht=>h' (h.T c ht)),fun c hc=>(k.heap c (h.T c hc)).trans (h.heap c hc),
  k.os.trans h.os,k.tape.trans h.tape,k.output.trans h.output,ALM h.size k.size⟩
theorem Le.base{E E':Env}(h:Le E E')(w:World):Yg E w E' w:=⟨h.T,h.S,h.Tof,h.qj,fun _ _=>rfl,rfl,rfl,rfl,ALE _⟩
def oJ(E:Env)(w:World)(k:Nat):Bx→Nat→Prop
 | .mem _,c=>c=E.GB k
 | .sl _ r rows,c=>RB w (.sl r) [E.GQ k] rows c
 | .dead,_=>False
def RC:Bx→Bx→Prop
 | .mem _,.mem _=>True
 | .sl _ r x,.sl _ q y=>(⟨r,x⟩:(r:Ty)×List r.D)=⟨q,y⟩
 |_,_=>False
structure Nx (t:AB1) (E0:Env) (bx0:List Bx) (w0:World) (E:Env) (bx:List Bx) (w:World):Prop where
 base:Yg E0 w0 E w
 len:bx0.length≤bx.length
 ids:∀b,b<bx0.length→E.GB b=E0.GB b∧E.GQ b=E0.GQ b
 dead:∀b:Nat,bx0[b]? =some Bx.dead→bx[b]? =some Bx.dead
 frame:∀(n:Nat) B B',n∉t→bx0[n]? =some B→bx[n]? =some B'→B'≠ .dead→RC B B'∧ ∀c,oJ E0 w0 n B c→w.heap[c]? =w0.heap[c]?
theorem Nx.any{E E':Env}{bx NG:List Bx}{w w':World}(h:Nx [] E bx w E' NG w'){t:AB1}:Nx t E bx w E' NG w':=
 ⟨h.base,h.len,h.ids,h.dead,fun n B B' _=>h.frame n B B' (by simp)⟩
theorem RC.refl{B:Bx}(h:B≠ .dead):RC B B:=by cases B<;>simp_all[RC]
theorem Nx.refl(t:AB1)(E:Env)(bx:List Bx)(w:World):Nx t E bx w E bx w:=⟨Yg.refl E w,ALE _,fun _ _=>⟨rfl,rfl⟩,fun _ h=>h,fun n B B' _ h h' hd=>by
 rw[h]at h';cases h';exact⟨RC.refl hd,fun _ _=>rfl⟩⟩
theorem YX{E:Env}{w:World}{vw:List Bx}{k:Nat}{B:Bx}{F:AB1}{c:Nat}(h:gC E w vw k B F)(hc:oJ E w k B c):E.S c∨c∈F:=by
 cases B with
 |mem cs=>obtain⟨rfl,_⟩:=h;right;simp[oJ]at hc;simp[hc]
 |sl d r rows=>exact lS (Uh h.2) hc
 |dead=>exact hc.elim
structure Rel (E:Env) (σ:St) (a:Act) (w:World):Prop where
 Kk:a.defers=[]
 tm:Bw (XR E w σ.bx) σ.tm a.tmps.toList
 bx:CR E w σ.bx σ.bx []
theorem Rel.put{E:Env}{σ:St}{a:Act}{w:World}(h:Rel E σ a w)(dst:Option Tmp){x:XV}{v:Value}(hx:XR E w σ.bx x v):Rel E (σ.put dst x) (a.put dst v) w:=by
 cases dst with
 |none=>exact h
 |some d=>exact⟨h.Kk,by simpa[St.put,Act.put]using Bw.set h.tm hx,h.bx⟩
theorem Bw.AGu{E:Env}{w:World}{vw:List Bx}{l:List XV}{m:Array Value}(h:Bw (XR E w vw) l m.toList)(t:Nat):XR E w vw (l.getD t (.c .undef)) (m.getD t undef):=by
 by_cases ht:t<l.length
 ·have e:l[t]? =some l[t]:=AIH ht
  obtain⟨b,hb,hr⟩:=h.get e;have:m[t]? =some b:=by simpa using hb
  simp only[ANn,e,AM1,ANd,this];exact hr
 ·have e:l[t]? =none:=by simp;omega
  simp only[ANn,e,Option.getD_none]
  trivial
theorem kB{E:Env}{w:World}{vw:List Bx}(v:Value):VR E w vw (fh v) v:=by
 unfold fh;split<;>first
  |trivial
  |exact⟨rfl,by simp[Rd]⟩
  |rfl
theorem dI{E:Env}{w:World}{vw:List Bx}:∀(l:List Value),bR E w vw (l.map fh) l
 |[]=>trivial
 |a::l=>⟨kB a,dI l⟩
theorem pE{E:Env}{w:World}{vw:List Bx}(v:Value):XR E w vw (ofValue v) v:=by
 unfold ofValue;split
 ·rename_i cs
  exact⟨cs,rfl,dI cs.toList⟩
 ·exact kB v
theorem Rel.ev{E:Env}{σ:St}{a:Act}{w:World}(h:Rel E σ a w)(x:Operand):XR E w σ.bx (σ.ev x) (a.eval x):=by
 cases x with
 |tmp t=>exact Bw.AGu h.tm t
 |const v=>exact pE v
 |global g=>trivial
 |func f=>exact⟨by simp,rfl⟩
theorem Qx{b:Nat}:∀{Fs:List AB1} {F:AB1},Fs[b]? =some F→Fs.flatten.Perm (F++(Fs.set b []).flatten):=by
 induction b with
 |zero=>
  intro Fs F h;cases Fs with
  |nil=>simp at h
  |cons A l=>simp at h;subst h;simp
 |succ b ih=>
  intro Fs F h;cases Fs with
  |nil=>simp at h
  |cons A l=>
   have:=ih (Fs:=l) (F:=F) (by simpa using h);simp only[List.set_cons_succ,ALO];refine(AK6 A this).trans ?_
   rw[←AIg,←AIg];exact AKs _ AK7
theorem Sep.perm{E:Env}{w:World}{F F':AB1}(h:Sep E w F)(p:F.Perm F'):Sep E w F':=
 ⟨p.nodup_iff.1 h.nodup,fun c hc=>h.free c (p.mem_iff.2 hc),fun c hc=>h.lt c (p.mem_iff.2 hc),h.st,h.ZB⟩
theorem Sep.sub{E:Env}{w:World}{F F':AB1}(h:Sep E w (F++F')):Sep E w F:=
 ⟨(AJq.1 h.nodup).1,fun c hc=>h.free c (by simp[hc]),fun c hc=>h.lt c (by simp[hc]),h.st,h.ZB⟩
theorem CR.perm{E:Env}{w:World}{vw bx:List Bx}{G G':AB1}(h:CR E w vw bx G)(p:G.Perm G'):CR E w vw bx G':=
 let⟨Fs,h1,h2⟩:=h
 ⟨Fs,h1,h2.perm (AK6 _ p)⟩
theorem CR.drop{E:Env}{w:World}{vw bx:List Bx}{G G':AB1}(h:CR E w vw bx (G++G')):CR E w vw bx G:=
 let⟨Fs,h1,h2⟩:=h
 ⟨Fs,h1,by rw[←AIg]at h2;exact h2.sub⟩
theorem CR.st{E:Env}{w:World}{vw bx:List Bx}{G:AB1}(h:CR E w vw bx G):∀c,E.S c→E.T c:=let⟨_,_,h⟩:=h;h.st
theorem CR.ZB{E:Env}{w:World}{vw bx:List Bx}{G:AB1}(h:CR E w vw bx G):∀c,E.T c→c<w.heap.size:=let⟨_,_,h⟩:=h;h.ZB
theorem CR.uO{E:Env}{w:World}{vw bx:List Bx}{G:AB1}(h:CR E w vw bx G):∀c∈G,¬E.T c:=let⟨_,_,h⟩:=h;fun c hc=>h.free c (by simp[hc])
theorem CR.take{E:Env}{w:World}{vw bx:List Bx}{G:AB1}(h:CR E w vw bx G){b:Nat}{B:Bx}(hb:bx[b]? =some B):
  ∃F,gC E w vw b B F∧CR E w vw (bx.set b .dead) (F++G):=by
 obtain⟨Fs,⟨hl,h1⟩,h2⟩:=h;have Dj:=(AIE.1 hb).1;have hF:Fs[b]? =some (Fs[b]'(by omega)):=AIH _;refine⟨_,h1 b B _ hb hF,Fs.set b [],⟨by simpa using hl,fun k C F hk px=> ?_⟩,h2.perm ?_⟩
 ·by_cases e:k=b
  ·subst e
   rw[AKW (by omega)]at hk px;cases hk;cases px;rfl
  ·rw[AJo (by omega)]at hk px
   exact h1 k C F hk px
 ·have:=AKs G (Qx hF)
  refine this.trans ?_
  rw[AIg,←AIg (List.flatten _)];refine(AK7 (l₁:=Fs[b]'(by omega))).trans ?_
  rw[AIg,AIg];exact AK6 _ AK7
theorem CR.put{E:Env}{w:World}{vw bx:List Bx}{F G:AB1}(h:CR E w vw bx (F++G)){b:Nat}{B:Bx}(hb:bx[b]? =some .dead)(hB:gC E w vw b B F):
  CR E w vw (bx.set b B) G:=by
 obtain⟨Fs,⟨hl,h1⟩,h2⟩:=h;have Dj:=(AIE.1 hb).1;have hF:Fs[b]? =some (Fs[b]'(by omega)):=AIH _;have e0:Fs[b]'(by omega)=[]:=h1 b _ _ hb hF;refine⟨Fs.set b F,⟨by simpa using hl,fun k C F' hk px=> ?_⟩,h2.perm ?_⟩
 ·by_cases e:k=b
  ·subst e
   rw[AKW (by omega)]at hk px;cases hk;cases px;exact hB
  ·rw[AJo (by omega)]at hk px
   exact h1 k C F' hk px
 ·have p:(Fs.set b F).flatten.Perm (F++Fs.flatten):=by
   have p1:=Qx (Fs:=Fs.set b F) (b:=b) (F:=F) (AKW (by omega));rw[AOE]at p1;have p2:=Qx hF;rw[e0,ALB]at p2;exact p1.trans (AK6 _ p2.symm)
  refine List.Perm.symm ?_
  refine(AKs G p).trans ?_
  rw[←AIg];exact AKs _ AK7
theorem CR.push{E:Env}{w:World}{vw bx:List Bx}{F G:AB1}(h:CR E w vw bx (F++G)){B:Bx}(hB:gC E w vw bx.length B F):
  CR E w vw (bx++[B]) G:=by
 obtain⟨Fs,⟨hl,h1⟩,h2⟩:=h;refine⟨Fs++[F],⟨by simp[hl],fun k C F' hk px=> ?_⟩,h2.perm (by simp)⟩;by_cases e:k<bx.length
 ·rw[AJI (by omega)]at hk px
  exact h1 k C F' hk px
 ·have hk':=(AIE.1 hk).1
  simp at hk';obtain rfl:k=bx.length:=by omega
  rw[AKi (by omega)]at hk px;simp[hl]at hk px;subst hk px;exact hB
theorem CR.turn{E E':Env}{w w':World}{vw vw' bx:List Bx}{G:AB1}(h:CR E w vw bx G)(k:∀x v,VR E w vw x v→VR E' w' vw' x v)
  (hS:∀c,E.S c→E'.S c) (lE:∀b,b<bx.length→E'.GB b=E.GB b) (Xt:∀b,b<bx.length→E'.GQ b=E.GQ b)
  (hw:∀c,(E.S c∨(¬E.T c∧c∉G))→c<w.heap.size→w'.heap[c]? =w.heap[c]?)
  (vT:∀F,Sep E w (F++G)→Sep E' w' (F++G)):CR E' w' vw' bx G:=by
 obtain⟨Fs,⟨hl,h1⟩,h2⟩:=h;refine⟨Fs,⟨hl,fun n B F hn hF=> ?_⟩,vT _ h2⟩;have Dj:=(AIE.1 hn).1;have h3:=h1 n B F hn hF;have pM:∀c∈F,c∈Fs.flatten:=fun c hc=>AK9.2 ⟨F,AKh hF,hc⟩
 have hFw:∀c∈F,w'.heap[c]? =w.heap[c]?:=fun c hc=>hw c (.inr ⟨h2.free c (by simp[pM c hc]),fun hg=>by
  have:=(AJq.1 h2.nodup).2.2 c (pM c hc) c hg;exact this rfl⟩) (h2.lt c (by simp[pM c hc]))
 have ix:∀c,E.S c→w'.heap[c]? =w.heap[c]?:=fun c hc=>hw c (.inl hc) (h2.ZB c (h2.st c hc))
 cases B with
 |mem cs=>
  obtain⟨rfl,arr,ty,fr,ha,hu,hv⟩:=h3;refine⟨by rw[lE n Dj],arr,ty,fr,?_,hu,hv.imp k⟩;rw[lE n Dj,hFw _ (by simp),ha]
 |sl d r rows=>
  obtain⟨hd,ho⟩:=h3;refine⟨hd,?_⟩;rw[Xt n Dj];exact DB hS ix hFw ho
 |dead=>exact h3
end Go.Fw
end
section
namespace Go.Fw
theorem F_{β:Ty→Type}{a b:Ty}{x:β a}{y:β b}(h:NR a b x=some y):∃e:a=b,e▸x=y:=by
 unfold NR at h;split at h
 ·rename_i e
  exact⟨e,by simpa using h⟩
 ·cases h
def Di(bk vw:List Bx):Prop:= ∀(b:Nat) (B:Bx),bk[b]? =some B→B= .dead∨vw[b]? =some B
theorem Di.refl(bx:List Bx):Di bx bx:=fun _ _ h=> .inr h
theorem Addr.add_eq(b o n:Nat):(⟨b,o,none⟩:Addr).add n=⟨b,o+n,none⟩:=by unfold Addr.add;split<;>simp_all
theorem pN{w:World}{B:Nat→Prop}{r:Ty}{a:Option Addr}{len cap:Nat}{ys:List r.D}(h:Rd w B (.sl r) [.slice a len cap] ys){off n:Nat}(hn:off+n≤ys.length):
  Rd w B (.sl r) [N5 r.n off n a cap] ((ys.drop off).take n):=by
 simp only[Rd]at h⊢;obtain⟨a',cap',e,hc,h⟩:=h;simp only[AK_,Value.slice.injEq,AL0]at e;obtain⟨rfl,rfl,rfl⟩:=e;have hl:((ys.drop off).take n).length=n:=by simp;omega
 refine⟨_,_,by unfold N5;rw[hl],by rw[hl];omega,?_⟩;rw[hl];by_cases h0:n=0
 ·exact .inl h0
 ·rcases h with h|⟨b,o,rfl,hb,h⟩
  ·omega
  ·refine .inr ⟨b,o+off*r.n,?_,hb,fun i y hy=> ?_⟩
   ·rw[AIU (by omega)]
    simp[Addr.add_eq]
   ·have hi:=(AIE.1 hy).1
    rw[hl]at hi;rw[List.getElem?_take_of_lt hi,ANq]at hy;obtain⟨cs,e1,e2,e3⟩:=h (off+i) y hy;refine⟨cs,e1,?_,e3⟩;rw[AL4,←ANz]at e2;exact e2
def iU(E:Env)(Fs:List AB1)(c:Nat):Prop:=E.T c∨c∈Fs.flatten
section
variable{E:Env} {w:World} {vw bk:List Bx} {Fs:List AB1}
theorem KO.get(h:KO E w vw bk Fs){b:Nat}{B:Bx}(e:bk[b]? =some B):∃F,gC E w vw b B F∧ ∀c∈F,c∈Fs.flatten:=by
 have Dj:=(AIE.1 e).1;have hF:Fs[b]? =some (Fs[b]'(by rw[h.1];exact Dj)):=AIH _;exact⟨_,h.2 b B _ e hF,fun c hc=>AK9.2 ⟨_,AKh hF,hc⟩⟩
theorem Xe(hs:Di bk vw)(h:KO E w vw bk Fs)(st:∀c,E.S c→E.T c){b d:Nat}{r:Ty}{rows:List r.D}(e:bk[b]? =some (.sl d r rows))
  {p:List dK} (hp:CX r rows p) {q:Ty} {ys:List q.D} (hg:E6 r rows p=some ⟨q,ys⟩) {v:Value} (hh:HP w (E.GQ b) p=some v):
  Rd w (iU E Fs) (.sl q) [v] ys:=by
 obtain⟨F,⟨_,ho⟩,hF⟩:=h.get e;obtain⟨h',k,hr⟩:=e_ (Uh ho) hp hg;have:=k w (fun _ _=>rfl);rw[hh]at this;cases this;exact Dr (fun c hc=>hc.elim (fun hc=> .inl (st c hc)) (fun hc=> .inr (hF c hc))) (fun _ _=>rfl) hr
theorem UT(hs:Di bk vw){b d:Nat}{r:Ty}{rows:List r.D}(e:bk[b]? =some (.sl d r rows)):vw[b]? =some (.sl d r rows):=by
 rcases hs b _ e with h|h
 ·cases h
 ·exact h
theorem VX(hs:Di bk vw)(h:KO E w vw bk Fs)(st:∀c,E.S c→E.T c){x:AV}{v:Value}(hv:VR E w vw x v){q:Ty}{ys:List q.D}(e:KP bk x=some ⟨q,ys⟩):
  Rd w (iU E Fs) (.sl q) [v] ys:=by
 cases x with
 |sl s r x=>
  simp only[KP,AIK,AKo]at e;obtain⟨rfl,e⟩:=e;obtain rfl:=ALA e;simp only[VR]at hv;refine Dr (fun c hc=> ?_) (fun _ _=>rfl) hv;cases s
  ·exact .inl (by simpa using hc)
  ·exact .inl (st c (by simpa using hc))
 |ref b p=>
  simp only[KP]at e;split at e
  ·rename_i d r rows hb
   simp only[VR,UT hs hb]at hv
   replace hv:=hv.2
   exact Xe hs h st hb hv.1 e hv.2.2
  ·cases e
 |XT b p off n=>
  simp only[KP]at e;split at e
  ·rename_i d r rows hb
   simp only[VR,UT hs hb]at hv;obtain⟨_,hp,q',gv,a,len,cap,hg,hl,hh,rfl⟩:=hv;rw[hg]at e;simp only[Option.map_some,AIK,AKo]at e;obtain⟨rfl,e⟩:=e;obtain rfl:=ALA e;exact pN (Xe hs h st hb hp hg hh) hl
  ·cases e
 |_=>simp[KP]at e
theorem QV(hs:Di bk vw)(h:KO E w vw bk Fs)(st:∀c,E.S c→E.T c){t:Ty}{x:AV}{v:Value}(hv:VR E w vw x v){y:t.D}(e:J4 bk t x=some y):
  Rd w (iU E Fs) t [v] y:=by
 have sl:∀(r:Ty) (x:AV) (v:Value) (y:List r.D),VR E w vw x v→((KP bk x).bind fun q=>NR (β:=fun r=>List r.D) q.1 r q.2)=some y→Rd w (iU E Fs) (.sl r) [v] y:=by
  intro r x v y hv e;rw[AIm]at e;obtain⟨⟨q,ys⟩,e1,e2⟩:=e;obtain⟨e3,e4⟩:=F_ e2;dsimp only at e3;subst e3;subst e4;exact VX hs h st hv e1
 cases x with
 |v u z=>
  simp only[J4]at e;obtain⟨e1,e2⟩:=F_ e;subst e1;subst e2;exact Dr (fun _ hc=>hc.elim) (fun _ hc=>hc.elim) hv.2
 |nil=>
  cases t with
  |sl r=>
   simp only[J4,AIK]at e;subst e;simp only[VR]at hv;subst hv;simp only[Rd];exact⟨none,0,rfl,by simp,.inl rfl⟩
  |_=>simp[J4]at e
 |_=>
  cases t with
  |sl r=>exact sl r _ _ y hv (by simpa only[J4]using e)
  |_=>simp[J4]at e
theorem aA(hs:Di bk vw)(h:KO E w vw bk Fs)(st:∀c,E.S c→E.T c):∀{r:Ty} {l:List AV} {vs:List Value} {x:r.D},bR E w vw l vs→GG bk r l=some x→
  Rd w (iU E Fs) r vs x
 | .unit,[],[],x,_,_=>by simp only[Rd]
 | .cons c r,a::l,v::vs,x,hv,e=>by
  simp only[GG,AIm,AIX]at e;obtain⟨y,e1,z,e2,rfl⟩:=e;simp only[Rd];exact⟨v,vs,rfl,QV hs h st hv.1 e1,aA hs h st hv.2 e2⟩
 | .unit,_::_,_,_,_,e=>by simp[GG]at e
 | .unit,[],_::_,_,hv,_=>hv.elim
 | .cons _ _,[],_,_,_,e=>by simp[GG]at e
 | .cons _ _,_::_,[],_,hv,_=>hv.elim
 | .int _,_,_,_,_,e=>by simp[GG]at e
 | .bool,_,_,_,_,e=>by simp[GG]at e
 | .str,_,_,_,_,e=>by simp[GG]at e
 | .sl _,_,_,_,_,e=>by simp[GG]at e
theorem bS{E1:Env}{oL:List Bx}(hs:Di bk vw)(h:KO E w vw bk Fs)(st:∀c,E.S c→E.T c)(hT:∀c,iU E Fs c→E1.T c):
  ∀{r:Ty} {l:List AV} {vs:List Value} {x:r.D},bR E w vw l vs→GG bk r l=some x→bR E1 w oL (fR r x) vs
 | .unit,[],[],x,_,_=>trivial
 | .cons c r,a::l,v::vs,x,hv,e=>by
  simp only[GG,AIm,AIX]at e;obtain⟨y,e1,z,e2,rfl⟩:=e;have Ta:=QV hs h st hv.1 e1;have tl:bR E1 w oL _ _:=bS hs h st hT hv.2 e2;cases c with
  |sl q=>
   refine⟨?_,tl⟩;simp only[VR];exact Dr hT (fun _ _=>rfl) (by simpa using Ta)
  |int k=>exact⟨⟨rfl,by simpa only[Rd]using Ta⟩,tl⟩
  |bool=>exact⟨⟨rfl,by simpa only[Rd]using Ta⟩,tl⟩
  |str=>exact⟨⟨rfl,by simpa only[Rd]using Ta⟩,tl⟩
  |unit=>
   exfalso
   simp only[Rd]at Ta;cases Ta
  |cons c' r' =>
   exfalso
   cases a with
   |v u z=>
    simp only[J4]at e1;obtain⟨e3,_⟩:=F_ e1;subst e3;exact absurd hv.1.1 (by simp[Ty.scalar])
   |_=>simp[J4]at e1
 | .unit,_::_,_,_,_,e=>by simp[GG]at e
 | .unit,[],_::_,_,hv,_=>hv.elim
 | .cons _ _,[],_,_,_,e=>by simp[GG]at e
 | .cons _ _,_::_,[],_,hv,_=>hv.elim
 | .int _,_,_,_,_,e=>by simp[GG]at e
 | .bool,_,_,_,_,e=>by simp[GG]at e
 | .str,_,_,_,_,e=>by simp[GG]at e
 | .sl _,_,_,_,_,e=>by simp[GG]at e
end
end Go.Fw
end
section
namespace Go.Fw
def Ext(m m':MW):Prop:=m'.length=m.length∧ ∀(i b:Nat),m[i]? =some (some b)→m'[i]? =some (some b)
theorem Ext.refl(m:MW):Ext m m:=⟨rfl,fun _ _ h=>h⟩
theorem Ext.trans{m m' m'':MW}(h:Ext m m')(k:Ext m' m''):Ext m m'':=⟨k.1.trans h.1,fun i b e=>k.2 i b (h.2 i b e)⟩
def ik(m:MW):Prop:= ∀(i j b:Nat),m[i]? =some (some b)→m[j]? =some (some b)→i=j
theorem Xu{m m':MW}{i b:Nat}(e:m.put i b=some m'):Ext m m'∧m'[i]? =some (some b)∧(ik m→ik m'):=by
 unfold MW.put at e;split at e
 ·rename_i h
  split at e
  ·cases e
  ·rename_i hc
   cases e;have Dj:=(AIE.1 h).1;have yB:∀(k:Nat),m[k]?≠some (some b):=fun k hk=>hc (by
    rw[AOJ];exact AKh hk)
   refine⟨⟨by simp,fun k c hk=> ?_⟩,by simp[Dj],fun hi j k c hj hk=> ?_⟩
   ·by_cases e:k=i
    ·subst e;rw[h]at hk;cases hk
    ·rw[AJo (by omega)];exact hk
   ·by_cases e1:j=i<;>by_cases e2:k=i
    ·omega
    ·subst e1
     rw[AKW Dj]at hj;rw[AJo (by omega)]at hk;cases hj;exact absurd hk (yB k)
    ·subst e2
     rw[AKW Dj]at hk;rw[AJo (by omega)]at hj;cases hk;exact absurd hj (yB j)
    ·rw[AJo (by omega)]at hj hk
     exact hi j k c hj hk
 ·rename_i b' h
  split at e
  ·rename_i hb
   cases e;subst hb;exact⟨Ext.refl _,h,fun h=>h⟩
  ·cases e
 ·cases e
def ON(m:MW):List Nat→List Nat→Prop
 |[],[]=>True
 |i::is,b::bs=>m[i]? =some (some b)∧ON m is bs
 |_,_=>False
theorem ON.ext{m m':MW}(h:Ext m m'):∀{is bs},ON m is bs→ON m' is bs
 |[],[],_=>trivial
 |_::_,_::_,k=>⟨h.2 _ _ k.1,ON.ext h k.2⟩
theorem aX:∀{is bs:AB1} {m m':MW},Wu m is bs=some m'→Ext m m'∧ON m' is bs∧(ik m→ik m')
 |[],[],m,m',e=>by simp only[Wu,AIK]at e;subst e;exact⟨Ext.refl _,trivial,fun h=>h⟩
 |i::is,b::bs,m,m',e=>by
  simp only[Wu,AIm]at e;obtain⟨m1,e1,e2⟩:=e;obtain⟨a1,a2,a3⟩:=Xu e1;obtain⟨b1,b2,b3⟩:=aX e2;exact⟨a1.trans b1,⟨b1.2 _ _ a2,b2⟩,fun h=>b3 (a3 h)⟩
 |[],_::_,_,_,e=>by simp[Wu]at e
 |_::_,[],_,_,e=>by simp[Wu]at e
def O1(N:Nat)(m:MW):AP→AV→Prop
 | .ref i,x=> ∃b,(x= .ref b []∨(x= .nil∧b=N+i))∧m[i]? =some (some b)
 | .ptr i j,x=> ∃b,x= .GA b j∧m[i]? =some (some b)
 | .fn f Hg,x=> ∃bs,x= .fn f bs∧ON m Hg bs
 | .nil,x=>x= .nil
 | .cS i sz,x=> ∃b k j,x= .ref b [⟨k,sz,j⟩]∧m[i]? =some (some b)
 |_,_=>True
theorem O1.ext{N:Nat}{m m':MW}(h:Ext m m'){p:AP}{x:AV}(k:O1 N m p x):O1 N m' p x:=by
 cases p with
 |ref i=>obtain⟨b,hx,k⟩:=k;exact⟨b,hx,h.2 _ _ k⟩
 |ptr i j=>obtain⟨b,rfl,k⟩:=k;exact⟨b,rfl,h.2 _ _ k⟩
 |fn f Hg=>obtain⟨bs,rfl,k⟩:=k;exact⟨bs,rfl,k.ext h⟩
 |nil=>exact k
 |cS i sz=>obtain⟨b,q,j,rfl,k⟩:=k;exact⟨b,q,j,rfl,h.2 _ _ k⟩
 |_=>trivial
theorem YE{N:Nat}{m m':MW}{p:AP}{x:AV}(e:p.Ku N m x=some m'):Ext m m'∧O1 N m' p x∧(ik m→ik m'):=by
 cases p with
 |ref i=>
  cases x with
  |ref b q=>
   cases q with
   |nil=>
    obtain⟨a,b,c⟩:=Xu (by simpa only[AP.Ku]using e);exact⟨a,⟨_,.inl rfl,b⟩,c⟩
   |cons _ _=>simp[AP.Ku]at e
  |nil=>
   obtain⟨a,b,c⟩:=Xu (by simpa only[AP.Ku]using e);exact⟨a,⟨_,.inr ⟨rfl,rfl⟩,b⟩,c⟩
  |_=>simp[AP.Ku]at e
 |ptr i j=>
  cases x with
  |GA b j' =>
   simp only[AP.Ku]at e;split at e
   ·rename_i hj
    subst hj;obtain⟨a,b,c⟩:=Xu e;exact⟨a,⟨_,rfl,b⟩,c⟩
   ·cases e
  |_=>simp[AP.Ku]at e
 |fn f Hg=>
  cases x with
  |fn g bs=>
   simp only[AP.Ku]at e;split at e
   ·rename_i hf
    subst hf;obtain⟨a,b,c⟩:=aX e;exact⟨a,⟨_,rfl,b⟩,c⟩
   ·cases e
  |_=>simp[AP.Ku]at e
 |nil=>
  cases x with
  |nil=>simp only[AP.Ku,AIK]at e;subst e;exact⟨Ext.refl _,rfl,fun h=>h⟩
  |_=>simp[AP.Ku]at e
 |cS i sz=>
  cases x with
  |ref b q=>
   cases q with
   |nil=>simp[AP.Ku]at e
   |cons s q=>
    cases q with
    |nil=>
     simp only[AP.Ku]at e;split at e
     ·rename_i hs
      obtain⟨a,b,c⟩:=Xu e;obtain⟨k,z,y⟩:=s;dsimp only at hs;subst hs;exact⟨a,⟨_,k,y,rfl,b⟩,c⟩
     ·cases e
    |cons _ _=>simp[AP.Ku]at e
  |_=>simp[AP.Ku]at e
 |_=>
  have:m=m':=by cases x<;>simpa[AP.Ku]using e
  subst this;exact⟨Ext.refl _,trivial,fun h=>h⟩
theorem SI{N:Nat}:∀{l:List AP} {xs:List AV} {m m':MW},Tu.Ku N m l xs=some m'→Ext m m'∧Bw (O1 N m') l xs∧(ik m→ik m')
 |[],[],m,m',e=>by simp only[Tu.Ku,AIK]at e;subst e;exact⟨Ext.refl _,trivial,fun h=>h⟩
 |p::l,x::xs,m,m',e=>by
  simp only[Tu.Ku,AIm]at e;obtain⟨m1,e1,e2⟩:=e;obtain⟨a1,a2,a3⟩:=YE e1;obtain⟨b1,b2,b3⟩:=SI e2;exact⟨a1.trans b1,⟨a2.ext b1,b2⟩,fun h=>b3 (a3 h)⟩
 |[],_::_,_,_,e=>by simp[Tu.Ku]at e
 |_::_,[],_,_,e=>by simp[Tu.Ku]at e
def ZT(N:Nat)(m:MW):AP ⊕ List AP→AV ⊕ List AV→Prop
 | .inl p,.inl x=>O1 N m p x
 | .inr p,.inr x=>Bw (O1 N m) p x
 |_,_=>False
theorem ZT.ext{N:Nat}{m m':MW}(h:Ext m m'):∀{p:AP ⊕ List AP} {x:AV ⊕ List AV},ZT N m p x→ZT N m' p x
 | .inl _,.inl _,k=>O1.ext h k
 | .inr _,.inr _,k=>Bw.imp (fun _ _ k=>O1.ext h k) k
theorem WN{N:Nat}:∀{l:List (AP ⊕ List AP)} {xs:List (AV ⊕ List AV)} {m m':MW},UW.Ku N m l xs=some m'→Ext m m'∧Bw (ZT N m') l xs∧(ik m→ik m')
 |[],[],m,m',e=>by simp only[UW.Ku,AIK]at e;subst e;exact⟨Ext.refl _,trivial,fun h=>h⟩
 | .inl p::l,.inl x::xs,m,m',e=>by
  simp only[UW.Ku,AIm]at e;obtain⟨m1,e1,e2⟩:=e;obtain⟨a1,a2,a3⟩:=YE e1;obtain⟨b1,b2,b3⟩:=WN e2;exact⟨a1.trans b1,⟨O1.ext b1 a2,b2⟩,fun h=>b3 (a3 h)⟩
 | .inr p::l,.inr x::xs,m,m',e=>by
  simp only[UW.Ku,AIm]at e;obtain⟨m1,e1,e2⟩:=e;obtain⟨a1,a2,a3⟩:=SI e1;obtain⟨b1,b2,b3⟩:=WN e2;exact⟨a1.trans b1,⟨Bw.imp (fun _ _ k=>O1.ext b1 k) a2,b2⟩,fun h=>b3 (a3 h)⟩
 |[],_::_,_,_,e=>by simp[UW.Ku]at e
 | .inl _::_,[],_,_,e=>by simp[UW.Ku]at e
 | .inr _::_,[],_,_,e=>by simp[UW.Ku]at e
 | .inl _::_,.inr _::_,_,_,e=>by simp[UW.Ku]at e
 | .inr _::_,.inl _::_,_,_,e=>by simp[UW.Ku]at e
def Wj(N:Nat)(m:MW):XP→XV→Prop
 | .c p,.c x=>O1 N m p x
 | .agg l,.agg xs=>Bw (O1 N m) l xs
 | .row _,.agg _=>True
 | .Kv l,.Kv xs=>Bw (ZT N m) l xs
 |_,_=>False
theorem Wj.ext{N:Nat}{m m':MW}(h:Ext m m'):∀{p:XP} {x:XV},Wj N m p x→Wj N m' p x
 | .c _,.c _,k=>O1.ext h k
 | .agg _,.agg _,k=>Bw.imp (fun _ _ k=>O1.ext h k) k
 | .row _,.agg _,_=>trivial
 | .Kv _,.Kv _,k=>Bw.imp (fun _ _ k=>ZT.ext h k) k
theorem mY{N:Nat}{m m':MW}:∀{p:XP} {x:XV},p.Ku N m x=some m'→Ext m m'∧Wj N m' p x∧(ik m→ik m')
 | .c p,.c x,e=>YE (by simpa only[XP.Ku]using e)
 | .agg l,.agg xs,e=>SI (by simpa only[XP.Ku]using e)
 | .row r,.agg xs,e=>by simp only[XP.Ku,AIK]at e;subst e;exact⟨Ext.refl _,trivial,fun h=>h⟩
 | .Kv l,.Kv xs,e=>WN (by simpa only[XP.Ku]using e)
 | .c _,.agg _,e=>by simp[XP.Ku]at e
 | .c _,.Kv _,e=>by simp[XP.Ku]at e
 | .agg _,.c _,e=>by simp[XP.Ku]at e
 | .agg _,.Kv _,e=>by simp[XP.Ku]at e
 | .row _,.c _,e=>by simp[XP.Ku]at e
 | .row _,.Kv _,e=>by simp[XP.Ku]at e
 | .Kv _,.c _,e=>by simp[XP.Ku]at e
 | .Kv _,.agg _,e=>by simp[XP.Ku]at e
theorem X0{N:Nat}{tm:List XV}:∀{l:List (Nat×XP)} {m m':MW},E7.Ku N tm m l=some m'→
  Ext m m'∧(∀q∈l,∃x,tm[q.1]? =some x∧Wj N m' q.2 x)∧(ik m→ik m')
 |[],m,m',e=>by simp only[E7.Ku,AIK]at e;subst e;exact⟨Ext.refl _,by simp,fun h=>h⟩
 |(i,p)::l,m,m',e=>by
  simp only[E7.Ku]at e;split at e
  ·rename_i x hx
   simp only[AIm]at e;obtain⟨m1,e1,e2⟩:=e;obtain⟨a1,a2,a3⟩:=mY e1;obtain⟨b1,b2,b3⟩:=X0 e2;refine⟨a1.trans b1,?_,fun h=>b3 (a3 h)⟩;intro q hq;rcases AKv.1 hq with rfl|hq
   ·exact⟨x,hx,Wj.ext b1 a2⟩
   ·exact b2 q hq
  ·cases e
theorem Rt{N:Nat}{bx:List Bx}:∀{l:List BP} {i:Nat} {m m':MW},G_.Ku N bx i m l=some m'→
  Ext m m'∧(∀(k:Nat) q,l[k]? =some (.mem q)→ ∃b cs,m'[i+k]? =some (some b)∧bx[b]? =some (.mem cs)∧Bw (O1 N m') q cs)∧
   (∀(k:Nat) d r,l[k]? =some (.sl d r)→ ∃b,m'[i+k]? =some (some b))∧(ik m→ik m')
 |[],i,m,m',e=>by simp only[G_.Ku,AIK]at e;subst e;exact⟨Ext.refl _,by simp,by simp,fun h=>h⟩
 | .mem q::l,i,m,m',e=>by
  simp only[G_.Ku]at e;split at e
  ·rename_i b hb
   split at e
   ·rename_i cs tA
    simp only[AIm]at e;obtain⟨m1,e1,e2⟩:=e;obtain⟨a1,a2,a3⟩:=SI e1;obtain⟨b1,b2,b4,b3⟩:=Rt e2;refine⟨a1.trans b1,?_,?_,fun h=>b3 (a3 h)⟩
    ·intro k q' hk
     cases k with
     |zero=>cases hk;exact⟨b,cs,b1.2 _ _ (a1.2 _ _ hb),tA,Bw.imp (fun _ _ k=>O1.ext b1 k) a2⟩
     |succ k=>
      have:=b2 k q' (by simpa using hk)
      rwa [show i+1+k=i+(k+1)by omega]at this
    ·intro k d r hk
     cases k with
     |zero=>cases hk
     |succ k=>
      have:=b4 k d r (by simpa using hk)
      rwa [show i+1+k=i+(k+1)by omega]at this
   ·cases e
  ·cases e
 | .sl d r::l,i,m,m',e=>by
  simp only[G_.Ku]at e;split at e
  ·rename_i b hb
   obtain⟨b1,b2,b4,b3⟩:=Rt e;refine⟨b1,?_,?_,b3⟩
   ·intro k q' hk
    cases k with
    |zero=>cases hk
    |succ k=>
     have:=b2 k q' (by simpa using hk)
     rwa [show i+1+k=i+(k+1)by omega]at this
   ·intro k d r hk
    cases k with
    |zero=>exact⟨b,b1.2 _ _ hb⟩
    |succ k=>
     have:=b4 k d r (by simpa using hk)
     rwa [show i+1+k=i+(k+1)by omega]at this
  ·cases e
 | .gone::l,i,m,m',e=>by
  simp only[G_.Ku]at e;obtain⟨b1,b2,b4,b3⟩:=Rt e;refine⟨b1,?_,?_,b3⟩
  ·intro k q' hk
   cases k with
   |zero=>cases hk
   |succ k=>
    have:=b2 k q' (by simpa using hk)
    rwa [show i+1+k=i+(k+1)by omega]at this
  ·intro k d r hk
   cases k with
   |zero=>cases hk
   |succ k=>
    have:=b4 k d r (by simpa using hk)
    rwa [show i+1+k=i+(k+1)by omega]at this
theorem OX{bx bk:List Bx}{Hd:Nat→Nat}:∀{l:List BP} {m:MW} {x:G_.V l},G_.get bx bk m l=some x→(G_.mk Hd l x).length=l.length∧
  ∀(k:Nat) p,l[k]? =some p→ ∃y:p.V,(G_.mk Hd l x)[k]? =some (p.mk Hd y)∧
   match p,y with
   | .mem q,y=> ∃b cs,m[k]? =some (some b)∧bx[b]? =some (.mem cs)∧Tu.get bk q cs=some y
   | .sl d r,y=> ∃b d',m[k]? =some (some b)∧bx[b]? =some (.sl d' r y)∧1≤d∧d≤d'
   | .gone,_=>True
 |[],m,x,e=>⟨rfl,by simp⟩
 | .mem q::l,some b::m,x,e=>by
  simp only[G_.get]at e;split at e
  ·rename_i cs tA
   simp only[AIm,AIX]at e;obtain⟨a,e1,c,e2,rfl⟩:=e;obtain⟨h1,h2⟩:=OX (Hd:=Hd) e2;refine⟨by simp[G_.mk,h1],fun k p hk=> ?_⟩;cases k with
   |zero=>cases hk;exact⟨a,rfl,b,cs,rfl,tA,e1⟩
   |succ k=>
    obtain⟨y,k1,k2⟩:=h2 k p (by simpa using hk);exact⟨y,by simpa[G_.mk]using k1,by simpa using k2⟩
  ·cases e
 | .sl d r::l,some b::m,x,e=>by
  simp only[G_.get]at e;split at e
  ·rename_i d' q rows hb
   split at e
   ·rename_i hd
    simp only[AIm,AIX]at e;obtain⟨a,e1,c,e2,rfl⟩:=e;obtain⟨e3,e4⟩:=F_ e1;subst e3;subst e4;obtain⟨h1,h2⟩:=OX (Hd:=Hd) e2;refine⟨by simp[G_.mk,h1],fun k p hk=> ?_⟩;cases k with
    |zero=>cases hk;exact⟨rows,rfl,b,d',rfl,hb,hd.1,hd.2⟩
    |succ k=>
     obtain⟨y,k1,k2⟩:=h2 k p (by simpa using hk);exact⟨y,by simpa[G_.mk]using k1,by simpa using k2⟩
   ·cases e
  ·cases e
 | .gone::l,o::m,x,e=>by
  have e':(G_.get bx bk m l).map (fun c=>((),c))=some x:=by cases o<;>simpa only[G_.get]using e
  simp only[AIX]at e';obtain⟨c,e2,rfl⟩:=e';obtain⟨h1,h2⟩:=OX (Hd:=Hd) e2;refine⟨by simp[G_.mk,h1],fun k p hk=> ?_⟩;cases k with
  |zero=>cases hk;exact⟨(),rfl,trivial⟩
  |succ k=>
   obtain⟨y,k1,k2⟩:=h2 k p (by simpa using hk);exact⟨y,by simpa[G_.mk]using k1,by simpa using k2⟩
 | .mem q::l,none::m,x,e=>by simp[G_.get]at e
 | .sl d r::l,none::m,x,e=>by simp[G_.get]at e
 | .mem _::_,[],x,e=>by simp[G_.get]at e
 | .sl _ _::_,[],x,e=>by simp[G_.get]at e
 | .gone::_,[],x,e=>by simp[G_.get]at e
theorem Fo:∀{m:MW} {bx:List Bx},(CF bx m).length=bx.length
 |[],_=>rfl
 |some b::m,bx=>by simp[CF,Fo]
 |none::m,bx=>by simp[CF,Fo]
theorem OS:∀{m:MW} {bx vw:List Bx},Di bx vw→Di (CF bx m) vw
 |[],_,_,h=>h
 |none::m,bx,vw,h=>by simp only[CF];exact OS h
 |some b::m,bx,vw,h=>by
  simp only[CF];refine OS fun k B hk=> ?_
  by_cases e:k=b
  ·subst e
   have Dj:=(AIE.1 hk).1;rw[AKW (by simpa using Dj)]at hk;cases hk;exact .inl rfl
  ·rw[AJo (by omega)]at hk
   exact h k B hk
theorem SU:∀{m:MW} {bx:List Bx} {b:Nat} {B:Bx},some b∈m→(CF bx m)[b]? =some B→B= .dead
 |some c::m,bx,b,B,h,e=>by
  simp only[CF]at e;by_cases hm:some b∈m
  ·exact SU hm e
  ·have:c=b:=by
    rcases AKv.1 h with h|h
    ·cases h;rfl
    ·exact absurd h hm
   subst this;have:∀{m:MW} {bx:List Bx},bx[c]? =some .dead→some c∉m→(CF bx m)[c]? =some .dead:=by
    intro m
    induction m with
    |nil=>intro bx h _;exact h
    |cons o m ih=>
     intro bx h hn;cases o with
     |none=>simp only[CF];exact ih h (fun hh=>hn (ANM _ hh))
     |some d=>
      simp only[CF];refine ih ?_ (fun hh=>hn (ANM _ hh))
      have:d≠c:=fun hh=>hn (by subst hh;simp)
      rw[AJo (by omega)];exact h
   have Dj:c<bx.length:=by
    have:=(AIE.1 e).1;simpa[Fo]using this
   have:=this (m:=m) (bx:=bx.set c .dead) (by simp[Dj]) hm;rw[this]at e;cases e;rfl
 |none::m,bx,b,B,h,e=>by
  simp only[CF]at e;exact SU (by simpa using h) e
theorem fG{E:Env}{w:World}{vw:List Bx}:∀{m:MW} {bx:List Bx} {G:AB1},ik m→CR E w vw bx G→
  ∃Gs:List AB1,Gs.length=m.length∧(∀(k b:Nat) B F,m[k]? =some (some b)→bx[b]? =some B→Gs[k]? =some F→gC E w vw b B F)∧
   CR E w vw (CF bx m) (Gs.flatten++G)
 |[],bx,G,_,h=>⟨[],rfl,by simp,h⟩
 |none::m,bx,G,hi,h=>by
  obtain⟨Gs,h1,h2,h3⟩:=fG (m:=m) (fun i j b D6 hj=>by
   have:=hi (i+1) (j+1) b (by simpa using D6) (by simpa using hj);omega) h
  refine⟨[]::Gs,by simp[h1],fun k b B F hk hB hF=> ?_,by simpa[CF]using h3⟩;cases k with
  |zero=>simp at hk
  |succ k=>exact h2 k b B F (by simpa using hk) hB (by simpa using hF)
 |some b::m,bx,G,hi,h=>by
  have ACF:ik m:=fun i j b D6 hj=>by
   have:=hi (i+1) (j+1) b (by simpa using D6) (by simpa using hj);omega
  cases e:bx[b]? with
  |none=>
   have RI:bx.set b .dead=bx:=List.set_eq_of_length_le (by simpa using e);obtain⟨Gs,h1,h2,h3⟩:=fG (m:=m) ACF h;refine⟨[]::Gs,by simp[h1],fun k b' B F hk hB hF=> ?_,by simpa[CF,RI]using h3⟩;cases k with
   |zero=>simp at hk;subst hk;rw[e]at hB;cases hB
   |succ k=>exact h2 k b' B F (by simpa using hk) hB (by simpa using hF)
  |some B0=>
   obtain⟨F0,k1,k2⟩:=h.take e;obtain⟨Gs,h1,h2,h3⟩:=fG (m:=m) ACF k2;refine⟨F0::Gs,by simp[h1],fun k b' B F hk hB hF=> ?_,?_⟩
   ·cases k with
    |zero=>
     simp at hk hF;subst hk hF;rw[e]at hB;cases hB;exact k1
    |succ k=>
     have aO:b'≠b:=fun hh=>by
      have:=hi 0 (k+1) b (by simp) (by subst hh;simpa using hk);omega
     exact h2 k b' B F (by simpa using hk) (by rw[AJo (by omega)];exact hB) (by simpa using hF)
   ·simp only[CF]
    refine h3.perm ?_
    rw[ALO,←AIg];exact AKs _ AK7
end Go.Fw
end
section
namespace Go.Fw
theorem iN{R:Nat→List Nat→List Nat→List Nat→Prop}:∀(Gs:List AB1) (o:Nat),(∀(k:Nat) G,Gs[k]? =some G→ ∃F W,G.Perm (F++W)∧R (o+k) G F W)→
  ∃Fs Ws:List AB1,Fs.length=Gs.length∧Ws.length=Gs.length∧Gs.flatten.Perm (Fs.flatten++Ws.flatten)∧
   ∀(k:Nat) G F W,Gs[k]? =some G→Fs[k]? =some F→Ws[k]? =some W→R (o+k) G F W
 |[],o,_=>⟨[],[],rfl,rfl,by simp,by simp⟩
 |G::Gs,o,h=>by
  obtain⟨F,W,hp,hr⟩:=h 0 G rfl;obtain⟨Fs,Ws,h1,h2,h3,h4⟩:=iN Gs (o+1) (fun k G hk=>by
   have:=h (k+1) G (by simpa using hk)
   rwa [show o+1+k=o+(k+1)by omega])
  refine⟨F::Fs,W::Ws,by simp[h1],by simp[h2],?_,fun k G' F' W' hG hF hW=> ?_⟩
  ·simp only[ALO]
   refine(hp.append h3).trans ?_
   rw[AIg,AIg];refine AK6 _ ?_
   rw[←AIg,←AIg];exact AKs _ AK7
  ·cases k with
   |zero=>simp at hG hF hW;subst hG hF hW;exact hr
   |succ k=>
    have:=h4 k G' F' W' (by simpa using hG) (by simpa using hF) (by simpa using hW)
    rwa [show o+1+k=o+(k+1)by omega]at this
def MU(E:Env)(w:World)(vw:List Bx)(Hd:Nat→Nat):(l:List (Nat×XP))→E7.V l→List Value→Prop
 |[],_,_=>True
 |(i,p)::l,x,vals=>(∃v,vals[i]? =some v∧XR E w vw (p.mk Hd x.1) v)∧MU E w vw Hd l x.2 vals
section
variable{E E1:Env} {w:World} {bx bk oL:List Bx} {Fk:List AB1} {m:MW}
theorem ON.map{f:Nat→Nat}(h:∀(i b:Nat),m[i]? =some (some b)→E1.GB i=E.GB b):∀{is bs:AB1},ON m is bs→
  (is.map fun b=>Value.pointer (some ⟨E1.GB b,0,none⟩))=bs.map fun b=>Value.pointer (some ⟨E.GB b,0,none⟩)
 |[],[],_=>rfl
 |i::is,b::bs,k=>by simp[h i b k.1,ON.map (f:=f) h k.2]
theorem ON.lt:∀{is bs:AB1},ON m is bs→ ∀i∈is,i<m.length
 |[],[],_,_,h=>by simp at h
 |i::is,b::bs,k,j,h=>by
  rcases AKv.1 h with rfl|h
  ·exact(AIE.1 k.1).1
  ·exact ON.lt k.2 j h
structure tO (N:Nat) (E:Env) (w:World) (bx bk:List Bx) (Fk:List AB1) (m:MW) (E1:Env) (oL:List Bx):Prop where
 within:Di bk bx
 boxes:KO E w bx bk Fk
 st:∀c,E.S c→E.T c
 T:∀c,iU E Fk c→E1.T c
 S:∀c,E.S c→E1.S c
 ids:∀(i b:Nat),m[i]? =some (some b)→E1.GB i=E.GB b∧E1.GQ i=E.GQ b
 len:m.length≤oL.length
 nil:∀(i:Nat) d r rows,oL[i]? =some (.sl d r rows)→E.GQ (N+i)= .slice none 0 0
 sl:∀(i:Nat) d r rows,i<m.length→oL[i]? =some (.sl d r rows)→ ∃b d',m[i]? =some (some b)∧bx[b]? =some (.sl d' r rows)
variable{N:Nat} (k:tO N E w bx bk Fk m E1 oL)
include k
theorem pW{p:AP}{x:AV}{v:Value}(hv:VR E w bx x v)(ha:O1 N m p x){y:p.V}(e:p.get bk x=some y):VR E1 w oL (p.mk id y) v:=by
 cases p with
 |v t=>
  simp only[AP.get]at e;split at e
  ·rename_i hs
   have hr:=QV k.within k.boxes k.st hv e;refine⟨hs,?_⟩;cases t with
   |int _=>simpa only[Rd]using hr
   |bool=>simpa only[Rd]using hr
   |str=>simpa only[Rd]using hr
   |_=>simp[Ty.scalar]at hs
  ·cases e
 |sl s r=>
  cases s with
  |false=>
   simp only[AP.get]at e;have hr:=QV k.within k.boxes k.st hv e;simp only[AP.mk,VR];exact Dr k.T (fun _ _=>rfl) (by simpa using hr)
  |true=>
   simp only[AP.get]at e;split at e
   ·rename_i q z
    obtain⟨e1,e2⟩:=F_ e;subst e1;subst e2;simp only[AP.mk,VR]at hv⊢;exact Dr k.S (fun _ _=>rfl) (by simpa using hv)
   ·cases e
    simp only[AP.mk,VR]at hv⊢;subst hv;simp only[Rd];exact⟨none,0,rfl,by simp,.inl rfl⟩
   ·cases e
 |nil=>
  obtain rfl:=ha;exact hv
 |ref i=>
  obtain⟨b,hx,hm⟩:=ha;have hi:=(AIE.1 hm).1;simp only[AP.mk,id,VR];rcases hx with rfl|⟨rfl,rfl⟩
  ·have hsl:=hv.1
   refine⟨hsl,?_⟩;cases e1:oL[i]? with
   |none=>simp at e1;have:=k.len;omega
   |some B=>
    cases B with
    |sl d r rows=>
     obtain⟨b',d',h1,h2⟩:=k.sl i d r rows hi e1;rw[hm]at h1;cases h1;simp only[VR,h2]at hv
     replace hv:=hv.2
     refine⟨by simp[CX],⟨_,rfl⟩,?_⟩;rw[(k.ids i b hm).2];exact hv.2.2
    |_=>trivial
  ·have W4:v= .slice none 0 0:=hv
   subst W4;refine⟨rfl,?_⟩;cases e1:oL[i]? with
   |none=>simp at e1;have:=k.len;omega
   |some B=>
    cases B with
    |sl d r rows=>
     refine⟨by simp[CX],⟨_,rfl⟩,?_⟩;rw[(k.ids i _ hm).2,k.nil i d r rows e1,CE]
    |_=>trivial
 |ptr i j=>
  obtain⟨b,rfl,hm⟩:=ha;have hi:=(AIE.1 hm).1;exact⟨ALH hi k.len,by rw[hv.2,id,(k.ids i b hm).1]⟩
 |jX r=>
  simp only[AP.get]at e;split at e
  ·rename_i s q z
   obtain⟨e1,e2⟩:=F_ e;subst e1;subst e2;simp only[AP.mk,VR]at hv⊢;obtain⟨bb,o,cs,h1,h2,h3,h4,h5⟩:=hv;have uX:∀c,(if s=true then E.S else E.T) c→E1.T c:=by
    intro c hc;cases s
    ·exact k.T c (.inl (by simpa using hc))
    ·exact k.T c (.inl (k.st c (by simpa using hc)))
   exact⟨bb,o,cs,h1,by simpa using uX bb h2,h3,h4,by simpa using Dr uX (fun _ _=>rfl) h5⟩
  ·rename_i b
   split at e
   ·rename_i cs hb
    obtain⟨F,⟨hF,arr,ty,fr,ha,hu,TE⟩,XY⟩:=k.boxes.get hb;have Ta:=aA k.within k.boxes k.st TE e;simp only[AP.mk,VR];refine⟨E.GB b,0,arr.toList,by simpa using hv.2,?_,br Ta,?_,by simpa using Dr k.T (fun _ _=>rfl) Ta⟩
    ·simp only[AJp,ALG]
     exact k.T _ (.inr (XY _ (by rw[hF];simp)))
    ·intro j u hj
     simp only[AL1,World.cell?,ha,AMY,AJp,ALG];simpa using hj
   ·cases e
  ·rename_i b p i sz
   split at e
   ·rename_i d q rows hb
    simp only[AIm]at e;obtain⟨⟨q',ys⟩,e1,e2⟩:=e;split at e2
    case isFalse=>cases e2
    rename_i Mm;obtain⟨e3,e4⟩:=F_ e2;dsimp only at e3;subst e3;subst e4;simp only[VR,UT k.within hb]at hv;obtain⟨_,hp,q1,ys1,bb,o,len,cap,hg,hi,hh,rfl⟩:=hv;rw[hg]at e1;simp only[AIK,AKo]at e1;obtain⟨e5,e6⟩:=e1;subst e5;obtain rfl:=ALA e6;have Ta:=Xe k.within k.boxes k.st hb hp hg hh;simp only[Rd]at Ta;obtain⟨a',cap',ee,_,Ta⟩:=Ta;simp only[AK_,Value.slice.injEq,AL0]at ee;obtain⟨rfl,rfl,rfl⟩:=ee;rcases Ta with Ta|⟨b1,o1,e7,hb1,Ta⟩
    ·omega
    ·cases e7
     obtain⟨cs,c1,c2,c3⟩:=Ta i _ (Nj hi);simp only[AP.mk,VR];refine⟨bb,o+i*q1.n,cs,by rw[Mm],by simpa using k.T _ hb1,c1,c2,by simpa using Dr k.T (fun _ _=>rfl) c3⟩
   ·cases e
  ·cases e
 |fn f Hg=>
  obtain⟨bs,rfl,hc⟩:=ha;refine⟨fun i hi=>ALH (hc.lt i (by simpa[AP.mk]using hi)) k.len,?_⟩;rw[hv.2];simp only[AP.mk,List.map_id];rw[ON.map (f:=id) (fun i b h=>(k.ids i b h).1) hc]
 |kJ f rs=>
  simp only[AP.get]at e;split at e
  ·rename_i g rows
   split at e
   case isFalse=>cases e
   rename_i hfg;subst hfg;obtain⟨ps,XF,V0⟩:=hv;refine⟨ps,XF,?_⟩;clear ha XF
   induction rs generalizing rows ps with
   |nil=>
    cases rows with
    |nil=>
     cases ps with
     |nil=>trivial
     |cons _ _=>exact V0.elim
    |cons _ _=>simp[VM.hD]at e
   |cons r rs ih=>
    cases rows with
    |nil=>simp[VM.hD]at e
    |cons q rows=>
     cases ps with
     |nil=>exact V0.elim
     |cons p ps=>
      simp only[VM.hD,AIm,AIX]at e;obtain⟨x1,e1,x2,e2,rfl⟩:=e;obtain⟨q1,q2⟩:=q;obtain⟨e3,e4⟩:=F_ e1;dsimp only at e3;subst e3;subst e4;obtain⟨⟨bb,o,cs,h1,h2,h3,h4,h5⟩,V0⟩:=V0;exact⟨⟨bb,o,cs,h1,k.T bb (.inl h2),h3,h4,Dr (fun b hb=>k.T b (.inl hb)) (fun _ _=>rfl) h5⟩,ih rows e2 ps V0⟩
  ·rename_i g bs
   split at e
   case isFalse=>cases e
   rename_i hfg;subst hfg;obtain⟨XF,V0⟩:=hv;refine⟨bs.map fun b=>Value.pointer (some ⟨E.GB b,0,none⟩),V0,?_⟩;clear ha XF V0
   induction rs generalizing bs with
   |nil=>
    cases bs with
    |nil=>trivial
    |cons _ _=>simp[VM.gH]at e
   |cons r rs ih=>
    cases bs with
    |nil=>simp[VM.gH]at e
    |cons b bs=>
     simp only[VM.gH,AIm,AIX]at e;obtain⟨x1,e1,x2,e2,rfl⟩:=e;split at e1
     case h_2=>cases e1
     rename_i cs hb;obtain⟨F,⟨hF,arr,ty,fr,ha,hu,TE⟩,XY⟩:=k.boxes.get hb;have Ta:=aA k.within k.boxes k.st TE e1;refine⟨⟨E.GB b,0,arr.toList,rfl,k.T _ (.inr (XY _ (by rw[hF];simp))),br Ta,?_,Dr k.T (fun _ _=>rfl) Ta⟩,ih bs e2⟩;intro j u hj;simp only[AL1,World.cell?,ha,AMY,AJp,ALG];simpa using hj
  ·cases e
 |any=>trivial
 |cS i sz=>
  obtain⟨b,q,j,rfl,hm⟩:=ha;have hi:=(AIE.1 hm).1;simp only[AP.get,AIK]at e;subst e;simp only[AP.mk,id,VR];have hsl:=hv.1;refine⟨hsl,?_⟩;cases e1:oL[i]? with
  |none=>simp at e1;have:=k.len;omega
  |some B=>
   cases B with
   |sl d r rows=>
    obtain⟨b',d',h1,h2⟩:=k.sl i d r rows hi e1;rw[hm]at h1;cases h1;simp only[VR,h2]at hv
    replace hv:=hv.2
    refine⟨hv.1,hv.2.1,?_⟩;rw[(k.ids i b hm).2];exact hv.2.2
   |_=>trivial
theorem fK:∀{l:List AP} {xs:List AV} {vs:List Value},bR E w bx xs vs→Bw (O1 N m) l xs→ ∀{y:Tu.V l},Tu.get bk l xs=some y→bR E1 w oL (Tu.mk id l y) vs
 |[],[],[],_,_,_,_=>trivial
 |p::l,x::xs,v::vs,hv,ha,y,e=>by
  simp only[Tu.get,AIm,AIX]at e;obtain⟨a,e1,b,e2,rfl⟩:=e;exact⟨pW k hv.1 ha.1 e1,fK hv.2 ha.2 e2⟩
 |[],[],_::_,hv,_,_,_=>hv.elim
 |_::_,_::_,[],hv,_,_,_=>hv.elim
 |[],_::_,_,_,ha,_,_=>ha.elim
 |_::_,[],_,_,ha,_,_=>ha.elim
theorem lB:∀{l:List (AP ⊕ List AP)} {xs:List (AV ⊕ List AV)} {vs:List Value},Bw (TR E w bx) xs vs→Bw (ZT N m) l xs→ ∀{y:UW.V l},UW.get bk l xs=some y→
  Bw (TR E1 w oL) (UW.mk id l y) vs
 |[],[],[],_,_,_,_=>trivial
 | .inl p::l,.inl x::xs,v::vs,hv,ha,y,e=>by
  simp only[UW.get,AIm,AIX]at e;obtain⟨a,e1,b,e2,rfl⟩:=e;exact⟨pW k hv.1 ha.1 e1,lB hv.2 ha.2 e2⟩
 | .inr p::l,.inr x::xs,v::vs,hv,ha,y,e=>by
  simp only[UW.get,AIm,AIX]at e;obtain⟨a,e1,b,e2,rfl⟩:=e;obtain⟨⟨us,hu,hus⟩,h2⟩:=hv;exact⟨⟨us,hu,fK k hus ha.1 e1⟩,lB h2 ha.2 e2⟩
 | .inl _::_,.inr _::_,_,_,ha,_,_=>ha.1.elim
 | .inr _::_,.inl _::_,_,_,ha,_,_=>ha.1.elim
 |[],[],_::_,hv,_,_,_=>hv.elim
 |_::_,_::_,[],hv,_,_,_=>hv.elim
 |[],_::_,_,_,ha,_,_=>ha.elim
 |_::_,[],_,_,ha,_,_=>ha.elim
theorem AEy{p:XP}{x:XV}{v:Value}(hv:XR E w bx x v)(ha:Wj N m p x){y:p.V}(e:p.get bk x=some y):XR E1 w oL (p.mk id y) v:=by
 cases p with
 |c p=>cases x with
  |c x=>exact pW k hv ha (by simpa only[XP.get]using e)
  |_=>exact ha.elim
 |agg l=>cases x with
  |agg xs=>
   obtain⟨vs,rfl,TE⟩:=hv;exact⟨vs,rfl,fK k TE ha (by simpa only[XP.get]using e)⟩
  |_=>exact ha.elim
 |row r=>cases x with
  |agg xs=>
   obtain⟨vs,rfl,TE⟩:=hv;exact⟨vs,rfl,bS k.within k.boxes k.st k.T TE (by simpa only[XP.get]using e)⟩
  |_=>exact ha.elim
 |Kv l=>cases x with
  |Kv xs=>
   obtain⟨vs,rfl,TE⟩:=hv;exact⟨vs,rfl,lB k TE ha (by simpa only[XP.get]using e)⟩
  |_=>exact ha.elim
theorem kW{tm:List XV}{vals:List Value}(htm:Bw (XR E w bx) tm vals):∀{l:List (Nat×XP)},(∀q∈l,∃x,tm[q.1]? =some x∧Wj N m q.2 x)→ ∀{y:E7.V l},E7.get bk tm l=some y→
  MU E1 w oL id l y vals
 |[],_,_,_=>trivial
 |(i,p)::l,ha,y,e=>by
  obtain⟨x,hx,hax⟩:=ha (i,p) (by simp);simp only[E7.get,hx,AIm,AIX]at e;obtain⟨a,e1,b,e2,rfl⟩:=e;obtain⟨v,hv,hr⟩:=htm.get hx;exact⟨⟨v,hv,AEy k hr hax e1⟩,kW htm (fun q hq=>ha q (by simp[hq])) e2⟩
end
structure kg (E:Env) (w:World) (bx:List Bx) (m:MW) (s:B3) (x:s.V) (vals:List Value) (E1:Env):Prop where
 boxes:CR E1 w (G_.mk id s.E5 x.2) (G_.mk id s.E5 x.2) []
 C5:MU E1 w (G_.mk id s.E5 x.2) id s.C5 x.1 vals
 ids:∀(i b:Nat),m[i]? =some (some b)→E1.GB i=E.GB b∧E1.GQ i=E.GQ b
 inj:ik m
 len:m.length=s.E5.length
 S:∀c,E.S c→E1.S c
 qj:∀c,E1.S c→E.S c∨ ¬E.T c
 T:∀c,E.T c→E1.T c
 rest:∃Fk,KO E w bx (CF bx m) Fk∧Fk.flatten.Nodup∧(∀c∈Fk.flatten,¬E.T c∧ ¬E1.S c∧c<w.heap.size∧E1.T c)∧(∀c,E1.T c→E.T c∨E1.S c∨c∈Fk.flatten)
theorem cz{E:Env}{w:World}{bx:List Bx}{tm:List XV}{vals:List Value}(hB:CR E w bx bx [])(htm:Bw (XR E w bx) tm vals){s:B3}{m0 m:MW}{x:s.V}
  {N:Nat} (kv:∀(i:Nat) d r,s.E5[i]? =some (.sl d r)→E.GQ (N+i)= .slice none 0 0) (hlen:m0.length=s.E5.length) (ACF:ik m0) (e:s.fit N m0 tm bx=some (x,m)):Ext m0 m∧ ∃E1,kg E w bx m s x vals E1:=by
 simp only[B3.fit,AIm,AIX]at e;obtain⟨m1,e1,m2,e2,a,e3,c,e4,e5⟩:=e;cases e5;obtain⟨a1,a2,a3⟩:=X0 e1;obtain⟨b1,b2,b4,b3⟩:=Rt e2;have hi:ik m:=b3 (a3 ACF);have s5:m.length=s.E5.length:=by rw[b1.1,a1.1,hlen]
 refine⟨a1.trans b1,?_⟩;obtain⟨Gs,g1,g2,g3⟩:=fG hi hB;obtain⟨q1,q2⟩:=OX (Hd:=id) e4;have st:=hB.st
 let R:Nat→List Nat→List Nat→List Nat→Prop:=fun k G F W=>
  match s.E5[k]? with
  |some (.sl d r)=> ∀(b d':Nat) (rows:List r.D),m[k]? =some (some b)→bx[b]? =some (.sl d' r rows)→Ow w (fun c=>E.S c∨c∈W) d (.sl r) [E.GQ b] rows F
  |some (.mem q)=>F=G∧W=[]
  |_=>F=[]∧W=G
 have ADm:∀(k:Nat) G,Gs[k]? =some G→ ∃F W,G.Perm (F++W)∧R (0+k) G F W:=by
  intro k G hG;rw[AL1];have hk:k<s.E5.length:=by
   have:=(AIE.1 hG).1;omega
  have hp:s.E5[k]? =some s.E5[k]:=AIH hk;cases hb:s.E5[k]with
  |mem q=>exact⟨G,[],by simp,by simp[R,hp,hb]⟩
  |gone=>exact⟨[],G,by simp,by simp[R,hp,hb]⟩
  |sl d r=>
   obtain⟨y,y1,b,d',y2,y3,y4,y5⟩:=q2 k _ (hp.trans (by rw[hb]));obtain⟨_,ho⟩:=g2 k b _ G y2 y3 hG;obtain⟨F,W,w1,w2⟩:=Hr y5 ho;refine⟨F,W,w1,?_⟩;simp only[R,hp,hb];intro b' d'' rows h1 h2;rw[y2]at h1;cases h1;rw[y3]at h2;cases h2;exact w2
 obtain⟨Fs,Ws,f1,f2,f3,f4⟩:=iN Gs 0 ADm;obtain⟨Fk,k1,k2⟩:=g3;simp only[AKb]at k2;have fD:Sep E w (Fk.flatten++(Fs.flatten++Ws.flatten)):=k2.perm (AK6 _ f3)
 let E1:Env:={
   GB:=fun i=>match m[i]? with|some (some b)=>E.GB b|_=>0
   GQ:=fun i=>match m[i]? with|some (some b)=>E.GQ b|_=> .nilFunc
   S:=fun c=>E.S c∨c∈Ws.flatten
   T:=fun c=>E.T c∨c∈Ws.flatten∨c∈Fk.flatten }
 have mQ:∀(i b:Nat),m[i]? =some (some b)→E1.GB i=E.GB b∧E1.GQ i=E.GQ b:=fun i b h=>by simp[E1,h]
 have fe:tO N E w bx (CF bx m) Fk m E1 (G_.mk id s.E5 c):={
  within:=OS (Di.refl bx)
  boxes:=k1
  st:=st
  T:=fun d hd=>hd.elim .inl fun h=> .inr (.inr h)
  S:=fun d hd=> .inl hd
  ids:=mQ
  len:=by rw[q1,s5];exact ALE _
  nil:=fun i d r rows e=>by
   have hk:i<s.E5.length:=by
    have:=(AIE.1 e).1
    rwa [q1]at this
   obtain⟨y,y1,_⟩:=q2 i _ (AIH hk);have hp:=AIH hk;rw[e]at y1
   generalize s.E5[i]=P at y y1 hp
   cases P with
   |mem q=>cases y1
   |gone=>cases y1
   |sl d0 r0=>exact kv i d0 r0 hp
  sl:=fun i d r rows hi e=>by
   have hk:i<s.E5.length:=by omega
   obtain⟨y,y1,y2⟩:=q2 i _ (AIH hk);rw[e]at y1
   generalize s.E5[i]=P at y y1 y2
   cases P with
   |mem q=>cases y1
   |gone=>cases y1
   |sl d0 r0=>
    simp only[BP.mk,AIK,Bx.sl.injEq]at y1;obtain⟨rfl,rfl,y1⟩:=y1;obtain rfl:=ALA y1;obtain⟨b,d',z1,z2,_⟩:=y2;exact⟨b,d',z1,z2⟩ }
 have nd:=fD.nodup;have vT:∀c∈Fs.flatten,¬E1.T c:=by
  intro d hd h;rcases h with h|h|h
  ·exact fD.free d (by simp[hd]) h
  ·have:=(AJq.1 (AJq.1 nd).2.1).2.2 d hd d h
   exact this rfl
  ·have:=(AJq.1 nd).2.2 d h d (by simp[hd])
   exact this rfl
 have AHw:MU E1 w (G_.mk id s.E5 c) id s.C5 a vals:=kW fe htm (fun q hq=>let⟨x,h1,h2⟩:=a2 q hq;⟨x,h1,Wj.ext b1 h2⟩) e3;refine⟨E1,kg.mk ?_ AHw mQ hi s5 (fun d hd=> .inl hd) ?_ (fun d hd=> .inl hd) ⟨Fk,k1,(AJq.1 nd).1,fun d hd=>⟨fD.free d (by simp[hd]),?_,fD.lt d (by simp[hd]),.inr (.inr hd)⟩,?_⟩⟩
 ·refine⟨Fs,⟨by rw[f1,g1,q1,s5],fun k B F hk hF=> ?_⟩,?_⟩
  ·have hkl:k<s.E5.length:=by
    have hk1:=(AIE.1 hk).1;rw[←q1];exact hk1
   have hp:s.E5[k]? =some s.E5[k]:=AIH hkl;obtain⟨y,y1,y2⟩:=q2 k _ hp;rw[hk]at y1;cases y1;have hG:Gs[k]? =some (Gs[k]'(by omega)):=AIH _;have hW:Ws[k]? =some (Ws[k]'(by omega)):=AIH _;have hr:=f4 k _ F _ hG hF hW;rw[AL1]at hr;have AJc:∀d∈Ws[k]'(by omega),d∈Ws.flatten:=fun d hd=>AK9.2 ⟨_,AKh hW,hd⟩
   generalize APc:s.E5[k]=P at y y2 hp
   have AKB:=fun q=>b2 k q
   simp only[R,hp]at hr;cases P with
   |mem q=>
    obtain⟨b,cs,z1,z2,z3⟩:=y2;obtain⟨rfl,hW0⟩:=hr;obtain⟨hFe,arr,ty,fr,h1,h2,h3⟩:=g2 k b _ _ z1 z2 hG;obtain⟨b',W0,t1,t2,t3⟩:=AKB q hp;rw[AL1,z1]at t1;cases t1;rw[z2]at t2;cases t2;refine⟨by rw[hFe,(mQ k b z1).1],arr,ty,fr,by rw[(mQ k b z1).1];exact h1,h2,fK fe h3 t3 z3⟩
   |sl d r=>
    obtain⟨b,d',z1,z2,z3,z4⟩:=y2;have:=hr b d' y z1 z2;refine⟨z3,?_⟩;rw[(mQ k b z1).2];exact DB (fun d hd=>hd.elim .inl fun h=> .inr (AJc d h)) (fun _ _=>rfl) (fun _ _=>rfl) this
   |gone=>exact hr.1
  ·simp only[AKb]
   refine⟨(AJq.1 (AJq.1 nd).2.1).1,vT,fun d hd=>fD.lt d (by simp[hd]),fun d hd=>hd.elim (fun h=> .inl (st d h)) (fun h=> .inr (.inl h)),fun d hd=> ?_⟩;rcases hd with hd|hd|hd
   ·exact fD.ZB d hd
   ·exact fD.lt d (by simp[hd])
   ·exact fD.lt d (by simp[hd])
 ·intro d hd
  exact hd.elim .inl fun h=> .inr (fD.free d (by simp[h]))
 ·intro h
  rcases h with h|h
  ·exact fD.free d (by simp[hd]) (st d h)
  ·have:=(AJq.1 nd).2.2 d hd d (by simp[h])
   exact this rfl
 ·intro d hd
  rcases hd with hd|hd|hd
  ·exact .inl hd
  ·exact .inr (.inl (.inr hd))
  ·exact .inr (.inr hd)
end Go.Fw
end
section
namespace Go.Fw
def zv:Ty→Value
 | .int k=> .int k 0
 | .bool=> .bool false
 | .str=> .string ⟨#[]⟩
 |_=> .slice none 0 0
def EX:Ty→List Value
 | .cons c r=>zv c::EX r
 | .unit=>[]
 |t=>[zv t]
def Ty.cell:Ty→Bool
 | .unit| .cons _ _=>false
 |_=>true
def Ty.ks:Ty→Bool
 | .cons c r=>c.cell&&r.ks
 |_=>true
def eqZ:Value→Value→Bool
 | .int k n,.int k' n' =>decide (k=k')&&decide (n=n')
 | .bool a,.bool b=>decide (a=b)
 | .string a,.string b=>decide (a.data.toList=[])&&decide (b.data.toList=[])
 | .slice none a b,.slice none c d=>decide (a=c)&&decide (b=d)
 |_,_=>false
theorem AFV{a b:Value}(h:eqZ a b=true):a=b:=by
 unfold eqZ at h;split at h
 ·simp at h;rw[h.1,h.2]
 ·simp at h;rw[h]
 ·rename_i a b
  simp at h;obtain⟨h1,h2⟩:=h;cases a;cases b;simp at h1 h2;subst h1 h2;rfl
 ·simp at h;rw[h.1,h.2]
 ·cases h
def rM:List Value→List Value→Bool
 |[],[]=>true
 |a::l,b::m=>eqZ a b&&rM l m
 |_,_=>false
theorem qL:∀{l m:List Value},rM l m=true→l=m
 |[],[],_=>rfl
 |a::l,b::m,h=>by
  simp only[rM,AIo]at h;rw[AFV h.1,qL h.2]
 |[],_::_,h=>by simp[rM]at h
 |_::_,[],h=>by simp[rM]at h
def Zb(P:Program)(t:Nat):TD→Prop
 | .int k=>P.underlying t=some (.int k)
 | .bool=>P.underlying t=some .bool
 | .str=>P.underlying t=some .string
 | .sl e=>P.underlying t=some (.slice e)
 | .ptr e=>P.underlying t=some (.pointer e)
 | .st fs=> ∃fields,P.underlying t=some (.struct fields)∧fields.toList.map (fun f=>(f.offset,f.type))=fs∧(∀f∈fields.toList,f.name≠ "_" ∧ ∃i,P.info? f.type=some i∧i.size≠0)∧
  P.stoodInHeld t=false∧P.eqGuardType P.depth t=false
 | .other=> ∃d,P.underlying t=some d∧d.isRow=false
structure AIQ (P:Program) (T:Hq) (t:Nat) (ti:TI):Prop where
 info:∃i,P.info? t=some i∧i.size=ti.size∧i.bytes=ti.bytes∧(∀r,ti.row=some r→r.ks=true∧ ∃z,i.zero=some z∧z.cells.toList=EX r)
 vl:Zb P t ti.desc
def D4(P:Program)(T:Hq):Prop:= ∀t ti,T.get t=some ti→AIQ P T t ti
def lX(P:Program)(T:Hq)(t:Nat)(ti:TI):Bool:=
 (match P.info? t with
  |some i=>decide (i.size=ti.size)&&decide (i.bytes=ti.bytes)&&(match ti.row with
   |some r=>r.ks&&(match i.zero with
    |some z=>rM z.cells.toList (EX r)
    |none=>false)
   |none=>true)
  |none=>false)&&
 (match ti.desc,P.underlying t with
  | .int k,some (.int k')=>decide (k=k')
  | .bool,some .bool=>true
  | .str,some .string=>true
  | .sl e,some (.slice e')=>decide (e=e')
  | .ptr e,some (.pointer e')=>decide (e=e')
  | .st fs,some (.struct fields)=>decide (fields.toList.map (fun f=>(f.offset,f.type))=fs)&&
    fields.toList.all (fun f=>decide (f.name≠ "_")&&(match P.info? f.type with|some i=>decide (i.size≠0)|none=>false))&&
    !P.stoodInHeld t&& !P.eqGuardType P.depth t
  | .other,some d=> !d.isRow
  |_,_=>false)
theorem lj{P:Program}{T:Hq}{t:Nat}{ti:TI}(h:lX P T t ti=true):AIQ P T t ti:=by
 unfold lX at h;rw[AIo]at h;obtain⟨h1,h2⟩:=h;constructor
 ·split at h1
  ·rename_i i hi
   simp only[AIo,AJJ]at h1;refine⟨i,hi,h1.1.1,h1.1.2,fun r hr=> ?_⟩;obtain⟨_,h3⟩:=h1;rw[hr]at h3;dsimp only at h3;rw[AIo]at h3;obtain⟨hg,h3⟩:=h3;refine⟨hg,?_⟩;split at h3
   ·rename_i z hz
    exact⟨z,hz,qL h3⟩
   ·cases h3
  ·cases h1
 ·split at h2
  ·rename_i hd hu;simp only[hd,Zb];simp at h2;rw[hu,h2]
  ·rename_i hd hu;simp only[hd,Zb];exact hu
  ·rename_i hd hu;simp only[hd,Zb];exact hu
  ·rename_i hd hu;simp only[hd,Zb];simp at h2;rw[hu,h2]
  ·rename_i hd hu;simp only[hd,Zb];simp at h2;rw[hu,h2]
  ·rename_i fs fields hd hu
   simp only[hd,Zb];simp only[AIo,AJJ,ALQ,AMZ]at h2;refine⟨fields,hu,h2.1.1.1,fun f hf=> ?_,h2.1.2,h2.2⟩;have:=h2.1.1.2 f hf;refine⟨this.1,?_⟩;have h4:=this.2;split at h4
   ·rename_i i hi
    exact⟨i,hi,by simpa using h4⟩
   ·cases h4
  ·rename_i d hd hu;simp only[hd,Zb]
   exact⟨d,hu,by simpa using h2⟩
  ·cases h2
def vO(P:Program)(T:Hq):Bool:=T.all fun q=>lX P T q.1 q.2
theorem Hq.get_mem:∀{T:Hq} {t:Nat} {ti:TI},T.get t=some ti→(t,ti)∈T
 |(u,i)::l,t,ti,h=>by
  simp only[Hq.get]at h;split at h
  ·rename_i e;cases h;subst e;simp
  ·exact ANM _ (Hq.get_mem h)
 |[],_,_,h=>by simp[Hq.get]at h
theorem gw{P:Program}{T:Hq}(h:vO P T=true):D4 P T:=fun t ti e=>
 lj (by simpa using ALQ.1 h (t,ti) (Hq.get_mem e))
section
variable{P:Program} {T:Hq} (hT:D4 P T)
include hT
theorem D4.size{t:Nat}{ti:TI}(e:T.get t=some ti):(P.info? t).map (·.size)=some ti.size:=by
 obtain⟨i,h1,h2,_⟩:=(hT t ti e).info;simp[h1,h2]
theorem D4.sizeOf{t:Nat}{ti:TI}(e:T.get t=some ti)(w:World):(Go.sizeOf t).run P w= .ok ti.size w:=by
 obtain⟨i,h1,h2,_⟩:=(hT t ti e).info;simp[Go.sizeOf,typeInfo,h1,h2]
omit hT in
theorem A4{t:Nat}{d:TypeDesc}(h:P.underlying t=some d)(w:World):(Go.underlying t).run P w= .ok d w:=by
 simp[Go.underlying,h]
theorem D4.isAgg{t:Nat}{ti:TI}(e:T.get t=some ti)(w:World):(Go.isAgg t).run P w= .ok ti.desc.agg w:=by
 have hu:=(hT t ti e).vl;unfold Go.isAgg;cases hd:ti.desc<;>rw[hd]at hu<;>simp only[Zb]at hu
 case st fs=>
  obtain⟨fields,hu,_⟩:=hu;simp[A4 hu,TD.agg]
 case other=>
  obtain⟨d,hu,hd⟩:=hu;rw[Sem.run_bind,A4 hu];cases d<;>simp_all[TypeDesc.isRow,TD.agg]
 all_goals simp[A4 hu,TD.agg]
end
end Go.Fw
end
section
namespace Go.Fw
def I5{Y:Type}(P:Program)(o:Oper)(E:Env)(σ:St)(a:Act)(w:World)(k:K Y)(y:Y):Prop:=
 ∃v w' E' x σ',((execOp a.eval o).run P w= .ok (.value v) w'∨((execOp a.eval o).run P w= .ok .skip w'∧v=undef))∧Rel E' σ' a w'∧XR E' w' σ'.bx x v∧Nx (GZ (fun _=>none) σ o.op) E σ.bx w E' σ'.bx w'∧
  σ'.tm.length=σ.tm.length∧k x σ' =some y
section
variable{Y:Type} {P:Program} {T:Hq} {o:Oper} {E:Env} {σ:St} {a:Act} {w:World} {k:K Y} {y:Y}
theorem I5.same(h:Rel E σ a w){v:Value}{x:XV}(hr:(execOp a.eval o).run P w= .ok (.value v) w)(hx:XR E w σ.bx x v)(hk:k x σ=some y):I5 P o E σ a w k y:=
 ⟨v,w,E,x,σ,.inl hr,h,hx,Nx.refl _ E σ.bx w,rfl,hk⟩
theorem V6{vw:List Bx}{κ:IntKind}{n:Int}{v:Value}(h:VR E w vw (.v (.int κ) n) v):v= .int κ n:=by
 have:=h.2;simpa[Rd]using this
theorem OW{vw:List Bx}{b:Bool}{v:Value}(h:VR E w vw (.v .bool b) v):v= .bool b:=by
 have:=h.2;simpa[Rd]using this
theorem Tp{vw:List Bx}{s:ACu}{v:Value}(h:VR E w vw (.v .str s) v):v= .string ⟨s.toArray⟩:=by
 have:=h.2;simpa[Rd]using this
theorem VR.int{vw:List Bx}(κ:IntKind)(n:Int):VR E w vw (.v (.int κ) n) (.int κ n):=⟨rfl,by simp[Rd]⟩
theorem VR.bool{vw:List Bx}(b:Bool):VR E w vw (.v .bool b) (.bool b):=⟨rfl,by simp[Rd]⟩
theorem VR.str{vw:List Bx}(s:ACu):VR E w vw (.v .str s) (.string ⟨s.toArray⟩):=⟨rfl,by simp[Rd]⟩
theorem SL(s:ACu):ByteArray.toList ⟨s.toArray⟩=s:=by
 have:∀(n i:Nat) (r:ACu),n=s.length-i→ByteArray.toList.loop ⟨s.toArray⟩ i r=r.reverse++s.drop i:=by
  intro n
  induction n with
  |zero=>
   intro i r hn;unfold ByteArray.toList.loop;rw[AIU (by simp[ByteArray.size];omega),List.drop_of_length_le (by omega)];simp
  |succ n ih=>
   intro i r hn;unfold ByteArray.toList.loop;have hi:i<s.length:=by omega
   rw[AIF (by simpa[ByteArray.size]using hi),ih (i+1) _ (by omega)];have:(⟨s.toArray⟩:ByteArray).get! i=s[i]:=by
    simp[ByteArray.get!,hi]
   rw[this,List.drop_eq_getElem_cons hi];simp
 unfold ByteArray.toList;rw[this _ 0 [] rfl];simp
theorem lZ(a b:ACu):(⟨a.toArray⟩:ByteArray)++⟨b.toArray⟩=⟨(a++b).toArray⟩:=by
 apply ByteArray.ext;simp
theorem mF(op:BinOp)(t:TypeId)(x y:Operand)(u v:Value)(hu:∀l,u≠ .agg l)(hn:u≠ .nilIface)(w:World):(eqGuard op t x y u v).run P w= .ok () w:=by
 unfold eqGuard;by_cases h:(op matches .eql| .neq)=true
 ·cases u<;>first
   |(exfalso;exact hn rfl)
   |(exfalso;exact hu _ rfl)
   |(cases v<;>simp[h])
 ·simp[h]
  exact fun hh=>absurd hh h
theorem nD{op:BinOp}{κ:IntKind}{m n:Int}{k:AV→Option Y}{y:Y}(e:ZD op κ m n k=some y)(t:TypeId)(w:World):
  ∃z v,k z=some y∧(binOp op t (.int κ m) (.int κ n)).run P w= .ok v w∧ ∀E vw,VR E w vw z v:=by
 cases op with
 |add=>exact⟨_,.int κ (κ.wrap (m+n)),e,by simp[binOp,Op.intArith],fun _ _=>VR.int _ _⟩
 |sub=>exact⟨_,.int κ (κ.wrap (m-n)),e,by simp[binOp,Op.intArith],fun _ _=>VR.int _ _⟩
 |mul=>exact⟨_,.int κ (κ.wrap (m*n)),e,by simp[binOp,Op.intArith],fun _ _=>VR.int _ _⟩
 |and=>exact⟨_,.int κ (κ.wrap (BitVec.ofInt κ.bits m &&& BitVec.ofInt κ.bits n).toNat),e,by simp[binOp,Op.intBits],fun _ _=>VR.int _ _⟩
 |or=>exact⟨_,.int κ (κ.wrap (BitVec.ofInt κ.bits m ||| BitVec.ofInt κ.bits n).toNat),e,by simp[binOp,Op.intBits],fun _ _=>VR.int _ _⟩
 |xor=>exact⟨_,.int κ (κ.wrap (BitVec.ofInt κ.bits m ^^^ BitVec.ofInt κ.bits n).toNat),e,by simp[binOp,Op.intBits],fun _ _=>VR.int _ _⟩
 |andNot=>exact⟨_,.int κ (κ.wrap (BitVec.ofInt κ.bits m &&& ~~~BitVec.ofInt κ.bits n).toNat),e,by simp[binOp,Op.intBits],fun _ _=>VR.int _ _⟩
 |eql=>exact⟨_,.bool (m==n),e,by simp[binOp,Op.intCmp],fun _ _=>VR.bool _⟩
 |neq=>exact⟨_,.bool (m !=n),e,by simp[binOp,Op.intCmp],fun _ _=>VR.bool _⟩
 |lss=>exact⟨_,.bool (decide (m<n)),e,by simp[binOp,Op.intCmp],fun _ _=>VR.bool _⟩
 |leq=>exact⟨_,.bool (decide (m≤n)),e,by simp[binOp,Op.intCmp],fun _ _=>VR.bool _⟩
 |gtr=>exact⟨_,.bool (decide (m>n)),e,by simp[binOp,Op.intCmp],fun _ _=>VR.bool _⟩
 |geq=>exact⟨_,.bool (decide (m≥n)),e,by simp[binOp,Op.intCmp],fun _ _=>VR.bool _⟩
 |quo=>
  simp only[ZD]at e;split at e
  ·cases e
  ·rename_i hz
   exact⟨_,.int κ (κ.wrap (m.tdiv n)),e,by simp[binOp,Op.intDiv,hz],fun _ _=>VR.int _ _⟩
 |rem=>
  simp only[ZD]at e;split at e
  ·cases e
  ·rename_i hz
   exact⟨_,.int κ (m.tmod n),e,by simp[binOp,Op.intDiv,hz],fun _ _=>VR.int _ _⟩
 |_=>simp[ZD]at e
theorem Y_{op:BinOp}{κ κ':IntKind}{m n:Int}{k:AV→Option Y}{y:Y}(e:T0 op κ m n k=some y)(t:TypeId)(w:World):
  ∃z v,k z=some y∧(binOp op t (.int κ m) (.int κ' n)).run P w= .ok v w∧ ∀E vw,VR E w vw z v:=by
 unfold T0 at e;split at e
 ·cases e
 ·rename_i hn
  cases op with
  |shl=>exact⟨_,.int κ (κ.wrap (m*2^min n.toNat κ.bits)),e,by simp[binOp,Op.shift,hn],fun _ _=>VR.int _ _⟩
  |shr=>exact⟨_,.int κ (m.fdiv (2^min n.toNat κ.bits)),e,by simp[binOp,Op.shift,hn],fun _ _=>VR.int _ _⟩
  |_=>simp at e
theorem mO{op:BinOp}{s u:ACu}{k:AV→Option Y}{y:Y}(e:ai op s u k=some y)(t:TypeId)(w:World):
  ∃z v,k z=some y∧(binOp op t (.string ⟨s.toArray⟩) (.string ⟨u.toArray⟩)).run P w= .ok v w∧ ∀E vw,VR E w vw z v:=by
 have h1:=SL s;have h2:=SL u;cases op with
 |eql=>exact⟨_,.bool (s==u),e,by simp[binOp,Op.stringOp,h1,h2],fun _ _=>VR.bool _⟩
 |neq=>exact⟨_,.bool (!(s==u)),e,by simp[binOp,Op.stringOp,h1,h2],fun _ _=>VR.bool _⟩
 |lss=>exact⟨_,.bool (Op.bytesLess s u),e,by simp[binOp,Op.stringOp,h1,h2],fun _ _=>VR.bool _⟩
 |leq=>exact⟨_,.bool (Op.bytesLess s u||s==u),e,by simp[binOp,Op.stringOp,h1,h2],fun _ _=>VR.bool _⟩
 |gtr=>exact⟨_,.bool (!(Op.bytesLess s u||s==u)),e,by simp[binOp,Op.stringOp,h1,h2],fun _ _=>VR.bool _⟩
 |geq=>exact⟨_,.bool (!Op.bytesLess s u),e,by simp[binOp,Op.stringOp,h1,h2],fun _ _=>VR.bool _⟩
 |add=>
  simp only[ai]at e;split at e
  ·rename_i hl
   refine⟨_,.string ⟨(s++u).toArray⟩,e,?_,fun _ _=>VR.str _⟩;have hs:(⟨s.toArray⟩:ByteArray).size=s.length:=by simp[ByteArray.size]
   have hu:(⟨u.toArray⟩:ByteArray).size=u.length:=by simp[ByteArray.size]
   have eK: ¬(((⟨s.toArray⟩:ByteArray).size+(⟨u.toArray⟩:ByteArray).size:Nat):Int)>IntKind.i64.max:=by
    rw[hs,hu];simp only[Dd,IntKind.max,IntKind.signed,IntKind.bits]at hl⊢;simp;omega
   simp only[binOp,Op.stringOp,Sem.run_ite,AIU eK,lZ];rfl
  ·cases e
 |_=>simp[ai]at e
theorem l7{d:TD}{x z:AV}{p:Bool}(e:g_ d x z=some p){E:Env}{w:World}{vw:List Bx}{v u:Value}(hx:VR E w vw x v)(hz:VR E w vw z u){t:TypeId}
  (hu:Zb P t d) (n:Nat):(Op.equalIn (n+1) t v u).run P w= .ok p w∧d.agg=false:=by
 unfold g_ at e;split at e
 ·rename_i κ j a k b
  split at e
  ·rename_i hj
   subst hj;cases e;rw[V6 hx,V6 hz];exact⟨run_equalIn_int (P:=P) w n t j κ a b hu,rfl⟩
  ·cases e
 ·cases e
  rw[OW hx,OW hz];exact⟨run_equalIn_bool' (P:=P) w n t _ _ hu,rfl⟩
 ·cases e
  rename_i a b;rw[Tp hx,Tp hz];have q:=run_equalIn_string (P:=P) w n t ⟨a.toArray⟩ ⟨b.toArray⟩ hu;rw[SL,SL]at q;exact⟨q,rfl⟩
 ·cases e
theorem ZE{T:Hq}(hT:D4 P T){E:Env}{w:World}{vw:List Bx}{xs ys:Array Value}:∀{fields:List Field} {i:Nat} {l m:List AV} {vs us:List Value} {r:Bool},
  (∀f∈fields,f.name≠ "_")→bR E w vw l vs→bR E w vw m us→IZ T i (fields.map fun f=>(f.offset,f.type)) l m=some r→
  (∀(j:Nat) v,vs[j]? =some v→xs[i+j]? =some v)→(∀(j:Nat) v,us[j]? =some v→ys[i+j]? =some v)→(Op.eqFields 9999 xs ys fields).run P w= .ok r w
 |[],i,[],[],_,_,r,_,_,_,e,_,_=>by
  simp only[AOR,IZ,AIK]at e;subst e;simp[Op.eqFields]
 |f::fs,i,x::l,z::m,v::vs,u::us,r,hn,hx,hz,e,h1,h2=>by
  simp only[AN0,IZ]at e;split at e
  case isFalse=>cases e
  rename_i ho;have hv:=h1 0 v rfl;have hu:=h2 0 u rfl;simp only[ANB]at hv hu;have AIk:=hn f (by simp);split at e
  case h_2=>cases e
  rename_i ti N8;split at e
  case h_2=>cases e
  rename_i p hp;simp only[AIX]at e;obtain⟨r',e',rfl⟩:=e;have ANI:=ZE hT (fields:=fs) (i:=i+1) (l:=l) (m:=m) (vs:=vs) (us:=us) (r:=r') (fun f hf=>hn f (by simp[hf])) hx.2 hz.2 e'
   (fun j v' hj=>by have:=h1 (j+1) v' (by simpa using hj);rwa [show i+(j+1)=i+1+j by omega]at this)
   (fun j v' hj=>by have:=h2 (j+1) v' (by simpa using hj);rwa [show i+(j+1)=i+1+j by omega]at this)
  have ae:=(hT f.type ti N8).vl;obtain⟨q,na⟩:=l7 (P:=P) hp hx.1 hz.1 (t:=f.type) ae 9998;have ak:=D4.isAgg hT N8 w;rw[na]at ak;have p1:(part f.type xs f.offset).run P w= .ok v w:=by simp[part,ak,ho,hv]
  have p2:(part f.type ys f.offset).run P w= .ok u w:=by simp[part,ak,ho,hu]
  simp only[Op.eqFields,AIk,ne_eq,not_false_eq_true,AMF,Sem.run_bind,p1,p2,Result.andThen_ok,q,ANI,Sem.run_ite,Sem.run_pure];cases p<;>simp
 |[],_,_::_,_,_,_,_,_,_,_,e,_,_=>by simp[IZ]at e
 |[],_,[],_::_,_,_,_,_,_,_,e,_,_=>by simp[IZ]at e
 |_::_,_,[],_,_,_,_,_,_,_,e,_,_=>by simp[IZ]at e
 |_::_,_,x::_,[],_,_,_,_,_,_,e,_,_=>by simp[IZ]at e
 |_::_,_,_::_,_::_,[],_,_,_,hx,_,_,_,_=>hx.elim
 |_::_,_,_::_,_::_,_::_,[],_,_,_,hz,_,_,_=>hz.elim
theorem fp(op:BinOp)(t:TypeId)(p q:Bool)(hu:P.underlying t=some .bool)(w:World):(op= .eql→(binOp op t (.bool p) (.bool q)).run P w= .ok (.bool (p==q)) w)∧
  (op= .neq→(binOp op t (.bool p) (.bool q)).run P w= .ok (.bool (!(p==q))) w):=by
 have h:=run_equalIn_bool' (P:=P) w 9999 t p q hu;constructor
 ·rintro rfl
  simp only[binOp,Op.equal,Op.maxDepth,Sem.run_bind,h,Result.andThen_ok,Sem.run_pure]
 ·rintro rfl
  simp only[binOp,Op.equal,Op.maxDepth,Sem.run_bind,h,Result.andThen_ok,Sem.run_pure]
theorem ZW{T:Hq}(hT:D4 P T){t:Nat}{op:BinOp}{x z:XV}{k:AV→Option Y}{y:Y}(e:mX T t op x z k=some y){E:Env}{w:World}{vw:List Bx}{v u:Value}
  (hx:XR E w vw x v) (hz:XR E w vw z u) (ox oz:Operand):
  ∃r val,k r=some y∧(do eqGuard op t ox oz v u;binOp op t v u:Sem Value).run P w= .ok val w∧VR E w vw r val:=by
 have guard:∀(v u:Value),(∀l,v≠ .agg l)→v≠ .nilIface→ ∀val,(binOp op t v u).run P w= .ok val w→(do eqGuard op t ox oz v u;binOp op t v u:Sem Value).run P w= .ok val w:=by
  intro v u h1 h2 val h;rw[Sem.run_bind,mF op t ox oz v u h1 h2 w,Result.andThen_ok,h]
 unfold mX at e;split at e
 ·rename_i j m j' n
  have hv:=V6 (E:=E) (vw:=vw) hx;have hu:=V6 (E:=E) (vw:=vw) hz;subst hv hu;have done:∀(q:∃r val,k r=some y∧(binOp op t (.int j m) (.int j' n)).run P w= .ok val w∧ ∀E vw,VR E w vw r val),∃r val,k r=some y∧(do eqGuard op t ox oz (.int j m) (.int j' n);binOp op t (.int j m) (.int j' n):Sem Value).run P w= .ok val w∧VR E w vw r val:=by
   rintro⟨r,val,h1,h2,h3⟩
   exact⟨r,val,h1,guard _ _ (by simp) (by simp) _ h2,h3 _ _⟩
  split at e
  ·exact done (Y_ e t w)
  ·exact done (Y_ e t w)
  ·split at e
   ·rename_i hj
    subst hj;exact done (nD e t w)
   ·cases e
 ·rename_i s s'
  have hv:=Tp (E:=E) (vw:=vw) hx;have hu:=Tp (E:=E) (vw:=vw) hz;subst hv hu;obtain⟨r,val,h1,h2,h3⟩:=mO (P:=P) e t w;exact⟨r,val,h1,guard _ _ (by simp) (by simp) _ h2,h3 _ _⟩
 ·rename_i p q
  have hv:=OW (E:=E) (vw:=vw) hx;have hu:=OW (E:=E) (vw:=vw) hz;subst hv hu;split at e
  ·rename_i ti N8
   have ae:=(hT t ti N8).vl;split at e
   ·rename_i hd
    rw[hd]at ae;split at e
    ·exact⟨_,_,e,guard _ _ (by simp) (by simp) _ ((fp _ t p q ae w).1 rfl),VR.bool _⟩
    ·exact⟨_,_,e,guard _ _ (by simp) (by simp) _ ((fp _ t p q ae w).2 rfl),VR.bool _⟩
    ·cases e
   ·cases e
  ·cases e
 ·rename_i l m
  obtain⟨vs,rfl,TE⟩:=hx;obtain⟨us,rfl,hus⟩:=hz;have key:∀r,((T.fields t).bind fun fs=>IZ T 0 fs l m)=some r→(Op.equalIn 10000 t (.agg vs) (.agg us)).run P w= .ok r w∧P.eqGuardType P.depth t=false:=by
   intro r hr;simp only[AIm]at hr;obtain⟨fs,hf,hr⟩:=hr;unfold Hq.fields at hf;split at hf
   ·rename_i fs' hd
    cases hf;simp only[AIX]at hd;obtain⟨ti,N8,hd⟩:=hd;have ae:=(hT t ti N8).vl;rw[hd]at ae;obtain⟨fields,hu,hfs,hnm,oP,hg⟩:=ae;have hfo:P.fieldsOf t=fields:=by simp[Program.fieldsOf,hu]
    have q:=run_equalIn_agg (P:=P) w 9999 t vs us (by rw[hfo];exact hu) oP;rw[hfo]at q;refine⟨q.trans ?_,hg⟩;subst hfs;exact ZE hT (fun f hf=>(hnm f hf).1) TE hus hr (fun j v hj=>by simpa using hj) (fun j v hj=>by simpa using hj)
   ·cases hf
  split at e
  ·rename_i r hr
   obtain⟨q,hg⟩:=key r hr;refine⟨_,_,e,?_,VR.bool r⟩;rw[Sem.run_bind,run_eqGuard_agg (P:=P) w _ t ox oz vs us hg,Result.andThen_ok,run_eql_struct (P:=P) w t vs us,q];rfl
  ·rename_i r hr
   obtain⟨q,hg⟩:=key r hr;refine⟨_,_,e,?_,VR.bool (!r)⟩;rw[Sem.run_bind,run_eqGuard_agg (P:=P) w _ t ox oz vs us hg,Result.andThen_ok,run_neq_struct (P:=P) w t vs us,q];rfl
  ·cases e
 ·cases e
end
end Go.Fw
end
section
namespace Go.Fw
section
variable{Y:Type} {P:Program} {T:Hq} (hT:D4 P T) {E:Env} {w:World} {vw:List Bx}
include hT
theorem AAP{t:Nat}{s b:Nat}{fs:List ADF}{rw:Option Ty}(e:T.get t=some ⟨s,b,.st fs,rw⟩):∃fields,P.underlying t=some (.struct fields)∧fields.toList.map (fun f=>(f.offset,f.type))=fs∧
  ∀f∈fields.toList,∃i,P.info? f.type=some i∧i.size≠0:=by
 obtain⟨fields,h1,h2,h3,_⟩:=(hT t _ e).vl;exact⟨fields,h1,h2,fun f hf=>(h3 f hf).2⟩
omit hT in
theorem gT{a:Addr}{f:Field}(h:∃i,P.info? f.type=some i∧i.size≠0):(fieldPlace a f).run P w= .ok (a.add f.offset) w:=by
 obtain⟨i,h1,h2⟩:=h;simp[fieldPlace,Go.sizeOf,typeInfo,h1,h2]
theorem Qg{t:Nat}{s b:Nat}{fs:List ADF}{rw:Option Ty}(e:T.get t=some ⟨s,b,.st fs,rw⟩){f o u:Nat}(hf:fs[f]? =some (o,u)){a:Addr}:
  (Instr.fieldAt t (.pointer (some a)) f).run P w= .ok (.pointer (some (a.add o))) w:=by
 obtain⟨fields,h1,h2,h3⟩:=AAP hT e;subst h2;simp only[ALC,AIX]at hf;obtain⟨fld,hfl,he⟩:=hf;have hm:=AKh hfl;have hfa:fields[f]? =some fld:=by simpa using hfl
 simp only[ALD]at he;simp[Instr.fieldAt,A4 h1,hfa,Instr.sureAddr,gT (h3 fld hm),he.1]
theorem aU{t:Nat}{x z:XV}{f:Nat}(e:kq T t x f=some z){v:Value}(hx:XR E w vw x v):∃u,(Instr.fieldAt t v f).run P w= .ok u w∧XR E w vw z u:=by
 unfold kq at e;split at e
 case h_2=>cases e
 rename_i s b fs _ N8;split at e
 case h_2=>cases e
 rename_i o u hf;split at e
 ·rename_i b' j
  cases e;obtain⟨h1,rfl⟩:=hx;exact⟨_,Qg hT N8 hf,h1,by rw[Addr.add_eq]⟩
 ·rename_i b' p i sz j
  cases e;obtain⟨h0,h1⟩:=hx;cases v with
  |pointer oa=>
   cases oa with
   |none=>simp[XM]at h0
   |some a=>
    obtain⟨ab,ao,sp⟩:=a;cases sp with
    |some _=>simp[XM]at h0
    |none=>
     refine⟨_,Qg hT N8 hf,by rw[Addr.add_eq];rfl,?_⟩;revert h1;split
     ·rintro⟨hp,q,ys,bb,o',len,cap,g1,g2,g3,g4⟩
      refine⟨hp,q,ys,bb,o',len,cap,g1,g2,g3,?_⟩;simp only[Value.pointer.injEq,AIK,Addr.mk.injEq,AL0]at g4;rw[Addr.add_eq,g4.1,g4.2,ANz]
     ·exact fun h=>h
     ·exact fun h=>h
  |_=>simp[XM]at h0
 ·rename_i s r y j
  cases e;obtain⟨bb,o',cs,rfl,h2,h3,h4,h5⟩:=hx;refine⟨_,Qg hT N8 hf,bb,o',cs,?_,h2,h3,h4,h5⟩;rw[Addr.add_eq,ANz]
 ·cases e
theorem dW{t:Nat}{x z:XV}{f:Nat}(e:uw T t x f=some z){v:Value}(hx:XR E w vw x v):∃u,(Instr.field t v f).run P w= .ok u w∧XR E w vw z u:=by
 unfold uw at e;split at e
 case h_2=>cases e
 rename_i s b fs _ l N8;obtain⟨vs,rfl,TE⟩:=hx;split at e
 case h_2=>cases e
 rename_i o u hf;split at e
 case h_2=>cases e
 rename_i ti htu;obtain⟨fields,h1,h2,h3⟩:=AAP hT N8;subst h2;simp only[ALC,AIX]at hf;obtain⟨fld,hfl,he⟩:=hf;have hfa:fields[f]? =some fld:=by simpa using hfl
 simp only[ALD]at he;obtain⟨rfl,rfl⟩:=he;have ak:=D4.isAgg hT htu w;have Mm:=D4.sizeOf hT htu w;split at e
 ·rename_i ha
  cases e;rw[ha]at ak;refine⟨.agg (vs.extract fld.offset (fld.offset+ti.size)),?_,_,rfl,?_⟩
  ·simp[Instr.field,A4 h1,hfa,asAgg,part,ak,Mm]
  ·have:(vs.extract fld.offset (fld.offset+ti.size)).toList=(vs.toList.drop fld.offset).take ti.size:=by
    rw[Array.toList_extract,List.extract_eq_take_drop];simp
   rw[this];exact Bw.take _ (Bw.drop _ TE)
 ·rename_i ha
  simp only[AK5]at ha;rw[ha]at ak;simp only[AIX]at e;obtain⟨y,hy,rfl⟩:=e;obtain⟨v,hv,hr⟩:=Bw.get TE hy;refine⟨v,?_,hr⟩;have:vs[fld.offset]? =some v:=by simpa using hv
  simp[Instr.field,A4 h1,hfa,asAgg,part,ak,this]
theorem Lk{t:Nat}{r:Ty}(h:T.Oq t r=true):∃e ti,P.underlying t=some (.slice e)∧T.get e=some ti∧ti.size=r.n∧ti.bytes≤512∧ti.row=some r:=by
 unfold Hq.Oq at h;split at h
 ·rename_i ti N8
  simp only[AIo,AJJ]at h;unfold Hq.elem at N8;split at N8
  ·rename_i e hd
   simp only[AIX]at hd;obtain⟨tj,h1,h2⟩:=hd;have:=(hT t tj h1).vl;rw[h2]at this;exact⟨e,ti,this,N8,h.1.1,h.1.2,h.2⟩
  ·cases N8
 ·cases h
theorem Tm{t:Nat}(h:T.isStr t=true):P.underlying t=some .string:=by
 unfold Hq.isStr at h;split at h
 ·rename_i hd
  simp only[AIX]at hd;obtain⟨tj,h1,h2⟩:=hd;have:=(hT t tj h1).vl;rw[h2]at this;exact this
 ·cases h
theorem bn{t:Nat}(h:T.yl t=true):∃e,P.underlying t=some (.slice e):=by
 unfold Hq.yl at h;split at h
 ·rename_i e hd
  simp only[AIX]at hd;obtain⟨tj,h1,h2⟩:=hd;have:=(hT t tj h1).vl;rw[h2]at this;exact⟨e,this⟩
 ·cases h
omit hT in
theorem Gc{x:XV}{n:Int}(e:YA x=some n){v:Value}(hx:XR E w vw x v):∃κ,v= .int κ n:=by
 unfold YA at e;split at e
 ·cases e;exact⟨_,V6 (E:=E) (w:=w) (vw:=vw) hx⟩
 ·cases e
theorem Xd{t:Nat}{r:Ty}(h:T.Oq t r=true){κ:IntKind}{i:Int}{a:Addr}{len cap:Nat}(h0:0≤i)(h1:i<(len:Int)):
  (Instr.indexAt t (.slice (some a) len cap) (.int κ i)).run P w= .ok (.pointer (some (a.add (i.toNat*r.n)))) w:=by
 obtain⟨e,ti,hu,N8,hs,_⟩:=Lk hT h;have Mm:=D4.sizeOf hT N8 w;simp[Instr.indexAt,asIntOf,A4 hu,h0,h1,Mm,hs]
omit hT in
theorem pc{bx:List Bx}{Fs:List AB1}(hB:KO E w bx bx Fs)(st:∀c,E.S c→E.T c){x:AV}{v:Value}(hv:VR E w bx x v){q:Ty}{ys:List q.D}(e:KP bx x=some ⟨q,ys⟩):
  ∃a cap,v= .slice a ys.length cap∧ys.length≤cap∧(ys.length=0∨ ∃b o,a=some ⟨b,o,none⟩):=by
 have:=VX (Di.refl bx) hB st hv e;simp only[Rd]at this;obtain⟨a,cap,h1,h2,h3⟩:=this;simp only[AK_,AL0]at h1;exact⟨a,cap,h1,h2,h3.imp id fun⟨b,o,h,_⟩=>⟨b,o,h⟩⟩
theorem aT{σ:St}{Fs:List AB1}(hB:KO E w σ.bx σ.bx Fs)(st:∀c,E.S c→E.T c){t:Nat}{x i:XV}{k:K Y}{y:Y}(e:bw σ T t x i k=some y){v u:Value}
  (hx:XR E w σ.bx x v) (hi:XR E w σ.bx i u):∃z val,k z σ=some y∧(Instr.indexAt t v u).run P w= .ok val w∧XR E w σ.bx z val:=by
 unfold bw at e;split at e
 ·rename_i s r rows n hn
  obtain⟨κ,rfl⟩:=Gc hn hi;split at e
  case isFalse=>cases e
  rename_i V2;split at e
  case isFalse=>cases e
  rename_i hb;obtain⟨h0,h1⟩:=hb;simp only[XR,VR,Rd]at hx;obtain⟨a,cap,hv,hl,hx⟩:=hx;simp only[AK_,AL0]at hv;subst hv;rcases hx with hx|⟨b,o,rfl,hb,hx⟩
  ·omega
  ·have Dj:n.toNat<rows.length:=by omega
   obtain⟨cs,c1,c2,c3⟩:=hx n.toNat _ (Nj Dj);refine⟨_,_,e,Xd hT V2 h0 h1,b,o+n.toNat*r.n,cs,?_,by simpa using hb,c1,c2,by simpa using c3⟩;rw[Addr.add_eq];rfl
 ·rename_i b p n hn
  obtain⟨κ,rfl⟩:=Gc hn hi;split at e
  case h_2=>cases e
  rename_i q hq;split at e
  case isFalse=>cases e
  rename_i V2;split at e
  case isFalse=>cases e
  rename_i hb;obtain⟨h0,h1⟩:=hb
  change VR E w σ.bx (.ref b p) v at hx
  obtain⟨a,cap,rfl,hl,ha⟩:=pc hB st hx hq;rcases ha with ha|⟨b',o,rfl⟩
  ·omega
  ·refine⟨_,_,e,Xd hT V2 h0 h1,by rw[Addr.add_eq];rfl,?_⟩
   simp only[KP]at hq;obtain⟨_,hx⟩:=hx;revert hx;split
   ·rename_i d r rows bE
    rw[bE]at hq;dsimp only at hq
    rintro⟨hp,hg,hh⟩
    exact⟨hp,q.1,q.2,b',o,_,cap,hq,by omega,hh,by rw[Addr.add_eq];rfl⟩
   ·rename_i bE
    intro _
    trivial
   ·exact fun h=>h
 ·rename_i b p off n' n hn
  obtain⟨κ,rfl⟩:=Gc hn hi;split at e
  case h_2=>cases e
  rename_i q hq;split at e
  case isFalse=>cases e
  rename_i V2;split at e
  case isFalse=>cases e
  rename_i hb;obtain⟨h0,h1⟩:=hb;simp only[KP]at hq;obtain⟨h00,hx⟩:=hx;revert hx;split
  ·rename_i d r rows bE
   rw[bE]at hq;dsimp only at hq
   rintro⟨hp,q',ys,a,len,cap,g1,g2,g3,rfl⟩
   have Ta:=Xe (Di.refl _) hB st bE hp g1 g3;simp only[Rd]at Ta;obtain⟨a',cap',ee,hle,Ta⟩:=Ta;simp only[AK_,Value.slice.injEq,AL0]at ee;obtain⟨rfl,rfl,rfl⟩:=ee;rcases Ta with Ta|⟨b',o,rfl,_,_⟩
   ·omega
   ·unfold N5
    rw[AIU (by omega)];have hq1:q.1=q':=by
     rw[g1]at hq;simp only[Option.map_some,AIK]at hq;rw[←hq]
    refine⟨_,_,e,Xd hT V2 h0 h1,by simp only[Option.map];rw[Addr.add_eq,Addr.add_eq];rfl,?_⟩;rw[bE];refine⟨hp,q',ys,b',o,_,cap,g1,by omega,g3,?_⟩;dsimp only;rw[Addr.add_eq,Addr.add_eq,hq1,ANz,←AL4];rfl
  ·rename_i B bE qB
   exfalso
   cases B with
   |sl d r rows=>exact bE d r rows rfl
   |_=>rw[qB]at hq;simp at hq
  ·exact fun h=>h.elim
 ·cases e
theorem XK{σ:St}{t:Nat}{x i:XV}{k:K Y}{y:Y}(e:Sn T t σ x i k=some y){v u:Value}(hx:XR E w vw x v)(hi:XR E w vw i u):
  ∃z val,k z σ=some y∧(Instr.index t v u).run P w= .ok val w∧XR E w vw z val:=by
 unfold Sn at e;split at e
 ·rename_i s n hn
  obtain⟨κ,rfl⟩:=Gc hn hi;have hv:=Tp (E:=E) (w:=w) (vw:=vw) hx;subst hv;split at e
  case isFalse=>cases e
  rename_i oP;split at e
  case isFalse=>cases e
  rename_i hb;obtain⟨h0,h1⟩:=hb;refine⟨_,.int .u8 ((s.getD n.toNat 0).toNat:Int),e,?_,VR.int (E:=E) (vw:=vw) _ _⟩;have Dj:n.toNat<s.length:=by omega
  have:(⟨s.toArray⟩:ByteArray)[n.toNat]? =some s[n.toNat]:=by
   rw[getElem?_pos _ _ (by simpa[ByteArray.size]using Dj)];rfl
  simp[Instr.index,asIntOf,A4 (Tm hT oP),h0,this,Dj]
 ·cases e
omit hT in
theorem X1{x z:XV}{i:Nat}(e:iT x i=some z){v:Value}(hx:XR E w vw x v):∃u,(Instr.extract v i).run P w= .ok u w∧XR E w vw z u:=by
 unfold iT at e;split at e
 case h_2=>cases e
 rename_i l;obtain⟨vs,rfl,TE⟩:=hx;split at e
 ·rename_i x hx
  cases e;obtain⟨v,hv,hr⟩:=TE.get hx;have:vs[i]? =some v:=by simpa using hv
  exact⟨v,by simp[Instr.extract,this],hr⟩
 ·rename_i q hx
  cases e;obtain⟨v,hv,ws,rfl,hr⟩:=TE.get hx;have:vs[i]? =some (.agg ws):=by simpa using hv
  exact⟨.agg ws,by simp[Instr.extract,this],ws,rfl,hr⟩
 ·cases e
omit hT in
theorem dH{bx:List Bx}{Fs:List AB1}(hB:KO E w bx bx Fs)(st:∀c,E.S c→E.T c){x:AV}{n:Nat}(e:lenOf bx x=some n){v:Value}(hx:VR E w bx x v):
  ∃a cap,v= .slice a n cap:=by
 cases x with
 |nil=>simp only[lenOf,AIK]at e;subst e;exact⟨_,_,hx⟩
 |sl s r x=>
  simp only[lenOf,AIK]at e;subst e;simp only[VR,Rd]at hx;obtain⟨a,cap,h,_⟩:=hx;simp only[AK_,AL0]at h;exact⟨a,cap,h⟩
 |ref b p=>
  simp only[lenOf]at e;split at e
  ·rename_i d r rows hb
   simp only[AIX]at e;obtain⟨q,hq,rfl⟩:=e;obtain⟨a,cap,h,_⟩:=pc hB st hx (q:=q.1) (ys:=q.2) (by simp only[KP,hb];exact hq);exact⟨a,cap,h⟩
  ·cases e
 |XT b p off m=>
  simp only[lenOf]at e;split at e
  ·rename_i d r rows hb
   cases e;simp only[VR,hb]at hx;obtain⟨_,_,q,ys,a,len,cap,_,_,_,rfl⟩:=hx;exact⟨_,_,rfl⟩
  ·cases e
 |_=>simp[lenOf]at e
omit hT in
theorem P6{big:Bool}{x z:XV}{k:AV→Option Y}{y:Y}(e:lU big x z k=some y){v u:Value}(hx:XR E w vw x v)(hz:XR E w vw z u)(t s:Array TypeId)(tt:TypeId):
  ∃r val,k r=some y∧(if big then Builtin.max_ t tt #[v,u]else Builtin.min_ t tt #[v,u]).run P w= .ok val w∧VR E w vw r val:=by
 unfold lU at e;split at e
 ·rename_i j m j' n
  have hv:=V6 (E:=E) (w:=w) (vw:=vw) hx;have hu:=V6 (E:=E) (w:=w) (vw:=vw) hz;subst hv hu;split at e
  case isFalse=>cases e
  rename_i hj;subst hj;cases big with
  |true=>exact⟨_,.int j (if n>m then n else m),e,by simp[Builtin.max_,Builtin.max2],VR.int _ _⟩
  |false=>exact⟨_,.int j (if n<m then n else m),e,by simp[Builtin.min_,Builtin.min2],VR.int _ _⟩
 ·cases e
omit hT in
theorem bd{op:UnOp}{x:XV}{k:AV→Option Y}{y:Y}(e:unX op x k=some y){v:Value}(hx:XR E w vw x v):
  ∃r val,k r=some y∧(Op.unary op v).run P w= .ok val w∧VR E w vw r val:=by
 unfold unX at e;split at e
 ·have hv:=OW (E:=E) (w:=w) (vw:=vw) hx
  subst hv;exact⟨_,_,e,by simp[Op.unary],VR.bool _⟩
 ·rename_i j n
  have hv:=V6 (E:=E) (w:=w) (vw:=vw) hx;subst hv;exact⟨_,.int j (j.wrap (0-n)),e,by simp[Op.unary,Op.intArith],VR.int _ _⟩
 ·cases e
end
end Go.Fw
end
section
namespace Go.Fw
theorem NW{a:Ty}(x:a.D):gl rfl x=x:=rfl
theorem YP{w:World}{S:Nat→Prop}:∀{r:Ty} {d j:Nat} {cs:List Value} {x:r.D} {F:AB1} {t:Ty} {y:t.D},Ow w S d r cs x F→Am r j x=some ⟨t,y⟩→
  ∃v F1 F2,cs[j]? =some v∧Ow w S d t [v] y F1∧F.Perm (F1++F2)∧
   ∀(w':World) (S':Nat→Prop) (v':Value) (y':t.D) (dM:AB1) (x':r.D),(∀b,S b→S' b)→(∀b,S b→w'.heap[b]? =w.heap[b]?)→(∀b∈F2,w'.heap[b]? =w.heap[b]?)→
    Ow w' S' d t [v'] y' dM→Cq r j x t y' =some x'→ ∃F',F'.Perm (dM++F2)∧Ow w' S' d r (cs.set j v') x' F'
 | .cons c r,d,0,cs,x,F,t,y,h,e=>by
  simp only[Ow]at h;obtain⟨v,l,A,B,rfl,rfl,h1,h2⟩:=h;simp only[Am,AIK,AKo]at e;obtain⟨rfl,e⟩:=e;obtain rfl:=ALA e;refine⟨v,A,B,rfl,h1,AOS _,fun w' S' v' y' dM x' hS ix hF ho hx=> ?_⟩;simp only[Cq,AOO,NW,AIK]at hx;subst hx;refine⟨dM++B,AOS _,?_⟩;simp only[Ow,ANs];exact⟨v',l,dM,B,rfl,rfl,ho,DB hS ix hF h2⟩
 | .cons c r,d,j+1,cs,x,F,t,y,h,e=>by
  simp only[Ow]at h;obtain⟨v,l,A,B,rfl,rfl,h1,h2⟩:=h;simp only[Am]at e;obtain⟨u,F1,F2,k1,k2,k3,k4⟩:=YP h2 e;refine⟨u,F1,A++F2,by simpa using k1,k2,?_,fun w' S' v' y' dM x' hS ix hF ho hx=> ?_⟩
  ·refine(AK6 A k3).trans ?_
   rw[←AIg,←AIg];exact AKs _ AK7
  ·simp only[Cq,AIX]at hx
   obtain⟨z,hz,rfl⟩:=hx;obtain⟨F',p1,p2⟩:=k4 w' S' v' y' dM z hS ix (fun b hb=>hF b (by simp[hb])) ho hz;refine⟨A++F',?_,?_⟩
   ·refine(AK6 A p1).trans ?_
    rw[←AIg,←AIg];exact AKs _ AK7
   ·simp only[Ow,List.set_cons_succ]
    exact⟨v,_,A,F',rfl,rfl,DB hS ix (fun b hb=>hF b (by simp[hb])) h1,p2⟩
 | .int k,d,0,cs,x,F,t,y,h,e=>by
  simp only[Am,AIK,AKo]at e;obtain⟨rfl,e⟩:=e;obtain rfl:=ALA e;have hc:=Sr h;obtain⟨v,rfl⟩:∃v,cs=[v]:=by
   cases cs with
   |nil=>simp[Ty.n]at hc
   |cons a l=>cases l with
    |nil=>exact⟨a,rfl⟩
    |cons _ _=>simp[Ty.n]at hc
  refine⟨v,F,[],rfl,h,by simp,fun w' S' v' y' dM x' hS ix hF ho hx=>⟨dM,by simp,?_⟩⟩;simp only[Cq,AOO,NW,AIK]at hx;subst hx;exact ho
 | .bool,d,0,cs,x,F,t,y,h,e=>by
  simp only[Am,AIK,AKo]at e;obtain⟨rfl,e⟩:=e;obtain rfl:=ALA e;have hc:=Sr h;obtain⟨v,rfl⟩:∃v,cs=[v]:=by
   cases cs with
   |nil=>simp[Ty.n]at hc
   |cons a l=>cases l with
    |nil=>exact⟨a,rfl⟩
    |cons _ _=>simp[Ty.n]at hc
  refine⟨v,F,[],rfl,h,by simp,fun w' S' v' y' dM x' hS ix hF ho hx=>⟨dM,by simp,?_⟩⟩;simp only[Cq,AOO,NW,AIK]at hx;subst hx;exact ho
 | .str,d,0,cs,x,F,t,y,h,e=>by
  simp only[Am,AIK,AKo]at e;obtain⟨rfl,e⟩:=e;obtain rfl:=ALA e;have hc:=Sr h;obtain⟨v,rfl⟩:∃v,cs=[v]:=by
   cases cs with
   |nil=>simp[Ty.n]at hc
   |cons a l=>cases l with
    |nil=>exact⟨a,rfl⟩
    |cons _ _=>simp[Ty.n]at hc
  refine⟨v,F,[],rfl,h,by simp,fun w' S' v' y' dM x' hS ix hF ho hx=>⟨dM,by simp,?_⟩⟩;simp only[Cq,AOO,NW,AIK]at hx;subst hx;exact ho
 | .sl r,d,0,cs,x,F,t,y,h,e=>by
  simp only[Am,AIK,AKo]at e;obtain⟨rfl,e⟩:=e;obtain rfl:=ALA e;have hc:=Sr h;obtain⟨v,rfl⟩:∃v,cs=[v]:=by
   cases cs with
   |nil=>simp[Ty.n]at hc
   |cons a l=>cases l with
    |nil=>exact⟨a,rfl⟩
    |cons _ _=>simp[Ty.n]at hc
  refine⟨v,F,[],rfl,h,by simp,fun w' S' v' y' dM x' hS ix hF ho hx=>⟨dM,by simp,?_⟩⟩;simp only[Cq,AOO,NW,AIK]at hx;subst hx;exact ho
 | .unit,_,_,_,_,_,_,_,_,e=>by simp[Am]at e
 | .int _,_,_+1,_,_,_,_,_,_,e=>by simp[Am]at e
 | .bool,_,_+1,_,_,_,_,_,_,e=>by simp[Am]at e
 | .str,_,_+1,_,_,_,_,_,_,e=>by simp[Am]at e
 | .sl _,_,_+1,_,_,_,_,_,_,e=>by simp[Am]at e
theorem cU{Fs:List AB1}{i:Nat}{G G':AB1}(h:Fs[i]? =some G):(Fs.set i G').flatten.Perm (G'++(Fs.set i []).flatten):=by
 have Dj:=(AIE.1 h).1;have p1:=Qx (Fs:=Fs.set i G') (b:=i) (F:=G') (AKW (by omega));rw[AOE]at p1;exact p1
theorem lP{w:World}{S:Nat→Prop}{d:Nat}{q:Ty}{a:Option Addr}{len cap:Nat}{ys:List q.D}{F:AB1}(h:Ow w S (d+1) (.sl q) [.slice a len cap] ys F){i:Nat}(hi:i<ys.length):
  ∃b o arr ty fr cs G R,a=some ⟨b,o,none⟩∧w.heap[b]? =some (.cells arr ty fr)∧oh fr arr.size∧o+i*q.n+q.n≤arr.size∧cs.length=q.n∧B7 w b (o+i*q.n) cs∧
   Ow w S d q cs (rowAt q ys i) G∧F.Perm (G++(b::R))∧
   ∀(w':World) (S':Nat→Prop) (KQ:Array Value) (W0:List Value) (Vl:q.D) (G':AB1),(∀c,S c→S' c)→(∀c,S c→w'.heap[c]? =w.heap[c]?)→(∀c∈R,w'.heap[c]? =w.heap[c]?)→
    w'.heap[b]? =some (.cells KQ ty fr)→KQ.size=arr.size→(∀k,(k<o+i*q.n∨o+i*q.n+q.n≤k)→KQ[k]? =arr[k]?)→W0.length=q.n→B7 w' b (o+i*q.n) W0→
    Ow w' S' d q W0 Vl G'→ ∃F',F'.Perm (G'++(b::R))∧Ow w' S' (d+1) (.sl q) [.slice a len cap] (ys.set i Vl) F':=by
 simp only[Ow]at h;obtain⟨a',cap',e,hle,h⟩:=h;simp only[AK_,Value.slice.injEq,AL0]at e;obtain⟨rfl,rfl,rfl⟩:=e;rcases h with⟨h1,_⟩|⟨b,o,arr,ty,fr,Fs,rfl,hb,Mm,hu,rfl,hFl,W_⟩
 ·omega
 ·have hG:Fs[i]? =some (Fs[i]'(by omega)):=AIH _
  generalize Fs[i]'(by omega)=G at hG
  obtain⟨cs,c1,c2,c3⟩:=W_ i _ G (Nj hi) hG;have hbound:o+i*q.n+q.n≤arr.size:=by
   have:(i+1)*q.n≤cap*q.n:=ALL _ (by omega);rw[AL4,AOH]at this;omega
  refine⟨b,o,arr,ty,fr,cs,G,(Fs.set i []).flatten,rfl,hb,fun i hi=>hu i (by omega),hbound,c1,c2,c3,?_,?_⟩
  ·refine(List.Perm.cons b (Qx hG)).trans ?_
   exact List.perm_middle.symm
  ·intro w' S' KQ W0 Vl G' hS ix hR qb hs' hk Xp hca ho
   refine⟨b::(Fs.set i G').flatten,?_,?_⟩
   ·refine(List.Perm.cons b (cU hG)).trans ?_
    exact List.perm_middle.symm
   ·simp only[Ow]
    refine⟨_,cap,by simp,by simpa using hle,.inr ⟨b,o,KQ,ty,fr,Fs.set i G',rfl,qb,by omega,by rw[hs'];exact hu,rfl,by simpa using hFl,fun k y H hy hH=> ?_⟩⟩;by_cases e:k=i
    ·subst e
     rw[AKW hi]at hy;rw[AKW (by omega)]at hH;cases hy;cases hH;exact⟨W0,Xp,hca,ho⟩
    ·rw[AJo (by omega)]at hy
     rw[AJo (by omega)]at hH;obtain⟨ds,d1,d2,d3⟩:=W_ k y H hy hH;refine⟨ds,d1,fun j v hj=> ?_,DB hS ix (fun c hc=>hR c (AK9.2 ⟨H,AKh (by rw[AJo (by omega)];exact hH:(Fs.set i [])[k]? =some H),hc⟩)) d3⟩;have qq:=(AIE.1 hj).1;have hold:=d2 j v hj;simp only[World.cell?,hb,AMY,AJp,ALG]at hold;simp only[World.cell?,qb,AMY,AJp,ALG];rw[hk,hold];rcases Nat.lt_or_gt_of_ne e with e|e
     ·left
      have:(k+1)*q.n≤i*q.n:=ALL _ e;rw[AL4,AOH]at this;omega
     ·right
      have:(i+1)*q.n≤k*q.n:=ALL _ e;rw[AL4,AOH]at this;omega
theorem iC{w:World}{S:Nat→Prop}:∀{p:List dK} {d:Nat} {r:Ty} {h:Value} {rows:List r.D} {F:AB1} {q:Ty} {ys:List q.D},Ow w S d (.sl r) [h] rows F→CX r rows p→
  E6 r rows p=some ⟨q,ys⟩→p.length<d→ ∃h' F1 F2,HP w h p=some h'∧Ow w S (d-p.length) (.sl q) [h'] ys F1∧F.Perm (F1++F2)∧
   ∀(w':World) (S':Nat→Prop) (gv:List q.D) (dM:AB1) (CC:List r.D),(∀c,S c→S' c)→(∀c,S c→w'.heap[c]? =w.heap[c]?)→(∀c∈F2,w'.heap[c]? =w.heap[c]?)→
    Ow w' S' (d-p.length) (.sl q) [h'] gv dM→fb r rows p q gv=some CC→ ∃F',F'.Perm (dM++F2)∧Ow w' S' d (.sl r) [h] CC F'
 |[],d,r,h,rows,F,q,ys,ho,_,hg,_=>by
  simp only[E6,AIK,AKo]at hg;obtain⟨rfl,e⟩:=hg;obtain rfl:=ALA e;refine⟨h,F,[],CE,ho,by simp,fun w' S' gv dM CC _ _ _ od hs=>⟨dM,by simp,?_⟩⟩;simp only[fb,AOO,NW,AIK]at hs;subst hs;exact od
 |s::p,d,r,h,rows,F,q,ys,ho,hp,hg,hd=>by
  obtain⟨d,rfl⟩:∃n,d=n+1:=⟨d-1,by simp at hd;omega⟩;simp only[CX]at hp;obtain⟨hi,Mm,hp⟩:=hp;simp only[E6]at hg;obtain⟨a,len,cap,rfl⟩:∃a len cap,h= .slice a len cap:=by
   have:=ho;simp only[Ow]at this;obtain⟨a,cap,e,_⟩:=this;simp only[AK_,AL0]at e;exact⟨_,_,_,e⟩
  split at hg
  case h_2=>cases hg
  rename_i q' x' Xq;rw[Xq]at hp;obtain⟨b,o,arr,ty,fr,cs,G,R,rfl,hb,hu,hbd,c1,c2,c3,dZ,hback⟩:=lP ho hi;obtain⟨v,A1,A2,k1,k2,k3,k4⟩:=YP c3 Xq;obtain⟨h',F1,F2,m1,m2,m3,m4⟩:=iC k2 hp hg (by simp at hd;omega);have uX:d+1-(s::p).length=d-p.length:=by simp
  refine⟨h',F1,F2++A2++(b::R),?_,by rw[uX];exact m2,?_,?_⟩
  ·simp only[HP]
   rw[Mm,c2 _ _ k1];exact m1
  ·refine dZ.trans ?_
   rw[AIg F2,←AIg F1];refine(AKs _ k3).trans ?_
   rw[←AIg (F1++F2)];exact AKs _ (AKs _ m3)
  ·intro w' S' gv dM CC hS ix hF2 od RI
   rw[uX]at od;simp only[fb,Xq]at RI;simp only[AIm,AIX]at RI;obtain⟨x2,hx2,Vl,hrow,rfl⟩:=RI;obtain⟨B1,p1,p2⟩:=m4 w' S' gv dM x2 hS ix (fun c hc=>hF2 c (by simp[hc])) od hx2;obtain⟨B2,p3,p4⟩:=k4 w' S' v x2 B1 Vl hS ix (fun c hc=>hF2 c (by simp[hc])) p2 hrow;have zK:cs.set s.j v=cs:=by
    apply ANv;intro k;by_cases e:k=s.j
    ·subst e
     rw[AKW (AIE.1 k1).1,k1]
    ·rw[AJo (by omega)]
   rw[zK]at p4;have v8:=hF2 b (by simp);obtain⟨F',p5,p6⟩:=hback w' S' arr cs Vl B2 hS ix (fun c hc=>hF2 c (by simp[hc])) (v8.trans hb) rfl (fun _ _=>rfl) c1 (c2.of_block v8) p4;refine⟨F',?_,p6⟩;refine p5.trans ?_
   rw[AIg F2,←AIg dM];refine(AKs _ p3).trans ?_
   rw[←AIg (dM++F2)];exact AKs _ (AKs _ p1)
end Go.Fw
end
section
namespace Go.Fw
def OR(E:Env)(w:World)(vw:List Bx):Option XV→Option Value→Prop
 |none,none=>True
 |some x,some v=>XR E w vw x v
 |_,_=>False
section
variable{Y:Type} {P:Program} {T:Hq} (hT:D4 P T) {E:Env} {w:World} {vw:List Bx}
theorem run_sliceBound{κ:IntKind}{i:Int}{y:Nat}{code:BoundsCode}(h0:0≤i)(h1:i≤(y:Int)):(Instr.sliceBound (.int κ i) y code).run P w= .ok i.toNat w:=by
 simp[Instr.sliceBound,asIntOf,h0,h1]
theorem P2{len cap:Nat}(hc:len≤cap){lo hi:Option XV}{k:Nat→Nat→Option Y}{y:Y}(e:LK len lo hi k=some y){lv hv:Option Value}
  (hl:OR E w vw lo lv) (hh:OR E w vw hi hv) (b:Bool):∃l h,k l h=some y∧l≤h∧h≤len∧(Instr.sliceBounds b len cap lv hv none).run P w= .ok (l,h,cap) w:=by
 unfold LK at e;dsimp only at e;split at e
 case h_2=>cases e
 rename_i l h el eh;split at e
 case isFalse=>cases e
 rename_i hb;obtain⟨b1,b2,b3⟩:=hb;refine⟨l.toNat,h.toNat,e,by omega,by omega,?_⟩;cases hi with
 |none=>cases hv with
  |some _=>exact hh.elim
  |none=>
   simp only[AIK]at eh;subst eh;cases lo with
   |none=>cases lv with
    |some _=>exact hl.elim
    |none=>
     simp only[AIK]at el;subst el;simp[Instr.sliceBounds]
   |some x=>cases lv with
    |none=>exact hl.elim
    |some v=>
     obtain⟨κ,rfl⟩:=Gc (E:=E) (w:=w) (vw:=vw) el hl;simp[Instr.sliceBounds,run_sliceBound (P:=P) (w:=w) (κ:=κ) (i:=l) (y:=len) b1 (by omega)]
 |some x=>cases hv with
  |none=>exact hh.elim
  |some v=>
   obtain⟨κ,rfl⟩:=Gc (E:=E) (w:=w) (vw:=vw) eh hh;have e1:=fun code=>run_sliceBound (P:=P) (w:=w) (κ:=κ) (i:=h) (y:=cap) (code:=code) (by omega) (by omega)
   cases lo with
   |none=>cases lv with
    |some _=>exact hl.elim
    |none=>
     simp only[AIK]at el;subst el;simp[Instr.sliceBounds,e1]
   |some x=>cases lv with
    |none=>exact hl.elim
    |some v=>
     obtain⟨κ',rfl⟩:=Gc (E:=E) (w:=w) (vw:=vw) el hl;have e2:=fun code=>run_sliceBound (P:=P) (w:=w) (κ:=κ') (i:=l) (y:=h.toNat) (code:=code) b1 (by omega)
     simp[Instr.sliceBounds,e1,e2]
theorem jN(s:ACu)(l h:Nat):(⟨s.toArray⟩:ByteArray).extract l h=⟨((s.drop l).take (h-l)).toArray⟩:=by
 apply ByteArray.ext;simp[List.extract_eq_take_drop]
include hT
theorem bT{σ:St}{Fs:List AB1}(hB:KO E w σ.bx σ.bx Fs)(st:∀c,E.S c→E.T c){t:Nat}{x:XV}{lo hi:Option XV}{k:K Y}{y:Y}(e:cQ T t σ x lo hi k=some y)
  {v:Value} {lv hv:Option Value} (hx:XR E w σ.bx x v) (hl:OR E w σ.bx lo lv) (hh:OR E w σ.bx hi hv):
  ∃z val,k z σ=some y∧(Instr.sliceAt t v lv hv none).run P w= .ok val w∧XR E w σ.bx z val:=by
 unfold cQ at e;split at e
 ·rename_i s
  split at e
  case isFalse=>cases e
  rename_i oP;have hu:=Tm hT oP;have W4:=Tp (E:=E) (w:=w) (vw:=σ.bx) hx;subst W4;obtain⟨l,h,ek,h1,h2,hr⟩:=P2 (P:=P) (cap:=s.length) (ALE _) e hl hh false;refine⟨_,.string ⟨((s.drop l).take (h-l)).toArray⟩,ek,?_,VR.str (E:=E) (vw:=σ.bx) _⟩;have hs:(⟨s.toArray⟩:ByteArray).size=s.length:=by simp[ByteArray.size]
  simp[Instr.sliceAt,A4 hu,Instr.slice,hs,hr,jN]
 ·rename_i s r rows
  split at e
  case isFalse=>cases e
  rename_i V2;obtain⟨el,ti,hu,N8,hs,_⟩:=Lk hT V2;have Mm:=D4.sizeOf hT N8 w
  change VR E w σ.bx (.sl s r rows) v at hx
  have oI:=hx;simp only[VR,Rd]at oI;obtain⟨a,cap,W4,hle,_⟩:=oI;simp only[AK_,AL0]at W4;subst W4;obtain⟨l,h,ek,h1,h2,hr⟩:=P2 (P:=P) hle e hl hh true;refine⟨_,N5 r.n l (h-l) a cap,ek,?_,?_⟩
  ·simp[Instr.sliceAt,A4 hu,Instr.slice,hr,Mm,hs,N5]
  ·simp only[XR,VR]at hx⊢
   exact pN hx (by omega)
 ·rename_i b p
  split at e
  case h_2=>cases e
  rename_i q hq;split at e
  case isFalse=>cases e
  rename_i V2;obtain⟨el,ti,hu,N8,hs,_⟩:=Lk hT V2;have Mm:=D4.sizeOf hT N8 w
  change VR E w σ.bx (.ref b p) v at hx
  obtain⟨a,cap,rfl,hle,_⟩:=pc hB st hx hq;obtain⟨l,h,ek,h1,h2,hr⟩:=P2 (P:=P) hle e hl hh true;refine⟨_,N5 q.1.n l (h-l) a cap,ek,?_,?_⟩
  ·simp[Instr.sliceAt,A4 hu,Instr.slice,hr,Mm,hs,N5]
  ·simp only[KP]at hq
   obtain⟨_,hx⟩:=hx;refine⟨by simp[N5,isSlice],?_⟩;revert hx;split
   ·rename_i d r rows bE
    rw[bE]at hq;dsimp only at hq
    rintro⟨hp,hg,hh⟩
    exact⟨hp,q.1,q.2,a,_,cap,hq,by omega,hh,rfl⟩
   ·exact fun _=>trivial
   ·exact fun h=>h
 ·cases e
omit hT in
theorem WE{f:Nat→Option AV}:∀{n j:Nat} {l:List AV},YG f j n=some l→l.length=n∧ ∀(i:Nat) x,l[i]? =some x→f (j+i)=some x
 |0,j,l,e=>by simp only[YG,AIK]at e;subst e;simp
 |n+1,j,l,e=>by
  simp only[YG,AIm,AIX]at e;obtain⟨x,hx,l',hl,rfl⟩:=e;obtain⟨h1,h2⟩:=WE hl;refine⟨by simp[h1],fun i z hz=> ?_⟩;cases i with
  |zero=>simp at hz;subst hz;exact hx
  |succ i=>
   have:=h2 i z (by simpa using hz)
   rwa [show j+1+i=j+(i+1)by omega]at this
omit hT in
theorem Sp{B:Nat→Prop}{t:Ty}{x:t.D}{v:Value}(h:Rd w B t [v] x)(hs:t.scalar=true):VR E w vw (.v t x) v:=by
 refine⟨hs,?_⟩;cases t<;>first
  |(simpa only[Rd]using h)
  |(simp[Ty.scalar]at hs)
omit hT in
theorem sj{s:Bool}{t:Ty}{x:t.D}{v:Value}(h:Rd w (if s then E.S else E.T) t [v] x):VR E w vw (pr s ⟨t,x⟩) v:=by
 cases t with
 |sl r=>simp only[pr,VR];exact h
 |int k=>exact Sp h rfl
 |bool=>exact Sp h rfl
 |str=>exact Sp h rfl
 |unit=>trivial
 |cons c r=>trivial
omit hT in
theorem de{s:dK}:∀{p:List dK} {r:Ty} {rows:List r.D} {q:Ty} {ys:List q.D} {t:Ty} {x:List t.D},CX r rows p→E6 r rows p=some ⟨q,ys⟩→s.i<ys.length→s.sz=q.n→
  Am q s.j (rowAt q ys s.i)=some ⟨.sl t,x⟩→CX r rows (p++[s])∧E6 r rows (p++[s])=some ⟨t,x⟩
 |[],r,rows,q,ys,t,x,_,hg,hi,hs,hc=>by
  simp only[E6,AIK,AKo]at hg;obtain⟨rfl,e⟩:=hg;obtain rfl:=ALA e;refine⟨?_,?_⟩
  ·simp only[ALB,CX,hc]
   exact⟨hi,hs,trivial⟩
  ·simp only[ALB,E6,hc]
 |s'::p,r,rows,q,ys,t,x,hp,hg,hi,hs,hc=>by
  simp only[CX]at hp;obtain⟨h1,h2,hp⟩:=hp;simp only[E6]at hg;split at hg
  ·rename_i q' x' Xq
   rw[Xq]at hp;obtain⟨a,b⟩:=de hp hg hi hs hc;refine⟨?_,?_⟩
   ·simp only[AMR,CX,Xq]
    exact⟨h1,h2,a⟩
   ·simp only[AMR,E6,Xq]
    exact b
  ·cases hg
omit hT in
theorem fj{s:dK}:∀{p:List dK} {h:Value} {b o len cap:Nat} {v:Value},HP w h p=some (.slice (some ⟨b,o,none⟩) len cap)→w.cell? ⟨b,o+s.i*s.sz+s.j,none⟩=some v→
  HP w h (p++[s])=some v
 |[],h,b,o,len,cap,v,e,hc=>by
  rw[CE]at e;cases e;simp[HP,hc,CE]
 |s'::p,h,b,o,len,cap,v,e,hc=>by
  cases h with
  |slice a l c=>
   cases a with
   |none=>simp[HP]at e
   |some a=>
    simp only[HP]at e;split at e
    ·rename_i h' hh
     simp only[AMR,HP,hh];exact fj e hc
    ·cases e
  |_=>simp[HP]at e
omit hT in
theorem Io{bx:List Bx}{Fs:List AB1}(hB:KO E w bx bx Fs)(st:∀c,E.S c→E.T c){x z:AV}{i:Nat}(e:HI bx x i=some z){v:Value}(hx:VR E w bx x v):
  ∃b o u,v= .pointer (some ⟨b,o,none⟩)∧w.cell? ⟨b,o+i,none⟩=some u∧VR E w bx z u:=by
 cases x with
 |GA b j=>
  simp only[HI]at e;split at e
  ·rename_i cs hb
   obtain⟨F,⟨_,arr,ty,fr,ha,hu,hv⟩,_⟩:=hB.get hb;obtain⟨u,h1,h2⟩:=Bw.get hv e;refine⟨_,_,u,hx.2,?_,h2⟩;simp only[World.cell?,ha,AMY,AJp,ALG];simpa using h1
  ·cases e
 |HW b p r sz j=>
  simp only[HI]at e;split at e
  ·rename_i d q rows hb
   split at e
   case isFalse=>cases e
   rename_i hd;simp only[AIm]at e;obtain⟨⟨q',gv⟩,hg,e⟩:=e;split at e
   case isFalse=>cases e
   rename_i Mm;simp only[AIX]at e;obtain⟨⟨t,y⟩,hc,rfl⟩:=e;simp only[VR,hb]at hx;obtain⟨_,hp,q1,ys,bb,o,len,cap,g1,g2,g3,rfl⟩:=hx;rw[hg]at g1;simp only[AIK,AKo]at g1;obtain⟨rfl,g1⟩:=g1;obtain rfl:=ALA g1;dsimp only at Mm hc;obtain⟨F,⟨hd1,ho⟩,hF⟩:=hB.get hb;have Ta:=Xe (Di.refl bx) hB st hb hp hg g3;have AQF:=Ta;simp only[Rd]at Ta;obtain⟨a',cap',ee,hle,Ta⟩:=Ta;simp only[AK_,Value.slice.injEq,AL0]at ee;obtain⟨rfl,rfl,rfl⟩:=ee;rcases Ta with Ta|⟨b1,o1,e7,_,Ta⟩
   ·omega
   ·cases e7
    obtain⟨cs,c1,c2,c3⟩:=Ta r _ (Nj g2);obtain⟨u,hu,hur⟩:=Ye c3 hc;have Un:=c2 _ _ hu;rw[←Mm]at Un;refine⟨_,_,u,rfl,by rw[ANz];exact Un,?_⟩;cases t with
    |sl t' =>
     simp only[qI];split
     ·rename_i hdd
      obtain⟨h',F1,F2,m1,m2,_,_⟩:=iC ho hp hg hd;rw[g3]at m1;cases m1;rw[show d-p.length=0+1 by omega]at m2;obtain⟨b2,o2,arr,ty,fr,cs2,G,R,e2,_,_,_,_,k2,k3,_,_⟩:=lP m2 g2;cases e2;obtain⟨v2,A1,A2,z1,z2,_,_⟩:=YP k3 hc;have tS:=k2 _ _ z1;rw[←Mm,Un]at tS;cases tS;simp only[Ow]at z2;simp only[VR];exact z2.1
     ·simp only[VR,hb]
      have:=de (s:=⟨r,sz,j+i⟩) hp hg g2 Mm hc;simp only[Rd]at hur;obtain⟨a2,cap2,e2,_⟩:=hur;simp only[AK_,AL0]at e2;refine⟨by rw[e2];rfl,this.1,⟨_,this.2⟩,fj g3 Un⟩
    |int k=>exact Sp hur rfl
    |bool=>exact Sp hur rfl
    |str=>exact Sp hur rfl
    |unit=>trivial
    |cons c r=>trivial
  ·cases e
 |K4 s r y j=>
  simp only[HI,AIX]at e;obtain⟨⟨t,y'⟩,hc,rfl⟩:=e;obtain⟨bb,o,cs,rfl,h2,h3,h4,h5⟩:=hx;obtain⟨u,hu,hur⟩:=Ye h5 hc;refine⟨_,_,u,rfl,by rw[ANz];exact h4 _ _ hu,sj hur⟩
 |_=>simp[HI]at e
omit hT in
theorem X7{bx:List Bx}{Fs:List AB1}(hB:KO E w bx bx Fs)(st:∀c,E.S c→E.T c){x:AV}{v:Value}(hx:VR E w bx x v){b o:Nat}(hv:v= .pointer (some ⟨b,o,none⟩)):
  ∀{l:List AV} {j:Nat},(∀(i:Nat) z,l[i]? =some z→HI bx x (j+i)=some z)→ ∃cs:List Value,cs.length=l.length∧B7 w b (o+j) cs∧bR E w bx l cs
 |[],_,_=>⟨[],rfl,fun _ _ h=>by simp at h,trivial⟩
 |z::l,j,h=>by
  obtain⟨b',o',u,e1,e2,e3⟩:=Io hB st (h 0 z rfl) hx;subst hv;simp only[Value.pointer.injEq,AIK,Addr.mk.injEq,AL0]at e1;obtain⟨rfl,rfl⟩:=e1;obtain⟨cs,c1,c2,c3⟩:=X7 hB st hx rfl (l:=l) (j:=j+1) (fun i y hy=>by
   have:=h (i+1) y (by simpa using hy)
   rwa [show j+1+i=j+(i+1)by omega])
  refine⟨u::cs,by simp[c1],fun i y hy=> ?_,e3,c3⟩;cases i with
  |zero=>simp at hy;subst hy;exact e2
  |succ i=>
   have:=c2 i y (by simpa using hy)
   rwa [show o+(j+1)+i=o+j+(i+1)by omega]at this
theorem mu{σ:St}{Fs:List AB1}(hB:KO E w σ.bx σ.bx Fs)(st:∀c,E.S c→E.T c){t:Nat}{x z:XV}(e:dY T t σ x=some z){v:Value}(hx:XR E w σ.bx x v):
  ∃u,(Instr.loadAt t v).run P w= .ok u w∧XR E w σ.bx z u:=by
 unfold dY at e;split at e
 case h_2=>cases e
 rename_i x ti N8;split at e
 case isTrue=>cases e
 rename_i Mm;have ak:=D4.isAgg hT N8 w;split at e
 ·rename_i ha
  rw[ha]at ak;simp only[AIX]at e;obtain⟨l,hl,rfl⟩:=e;obtain⟨h1,h2⟩:=WE hl;have h0:0<l.length:=by omega
  obtain⟨b,o,u,hv,_,_⟩:=Io hB st (h2 0 _ (AIH h0)) hx;obtain⟨cs,c1,c2,c3⟩:=X7 hB st hx hv (l:=l) (j:=0) (fun i y hy=>by simpa using h2 i y hy);subst hv;have ae:=(hT t ti N8).vl;cases hd:ti.desc with
  |st fs=>
   rw[hd]at ae;obtain⟨fields,hu,_⟩:=ae;refine⟨.agg cs.toArray,run_loadAt_mid w b o t cs _ (by simpa[B7,World.rangeAt]using c2) hu rfl ?_,cs.toArray,rfl,by simpa using c3⟩;rw[D4.size hT N8,c1,h1]
  |_=>rw[hd]at ha;simp[TD.agg]at ha
 ·rename_i ha
  simp only[AK5]at ha;rw[ha]at ak;simp only[AIX]at e;obtain⟨y,hy,rfl⟩:=e;obtain⟨b,o,u,hv,hc,hr⟩:=Io hB st hy hx;subst hv;refine⟨u,?_,hr⟩;simp only[ANB]at hc;simp[Instr.loadAt,Instr.sureAddr,loadVar,ak,hc]
end
end Go.Fw
end
section
namespace Go.Fw
theorem iS{w:World}{S:Nat→Prop}{d:Nat}{q:Ty}:Ow w S d (.sl q) [.slice none 0 0] [] []:=by
 cases d with
 |zero=>simp only[Ow,Rd];exact⟨⟨none,0,rfl,by simp,.inl rfl⟩,trivial⟩
 |succ d=>simp only[Ow];exact⟨none,0,rfl,by simp,.inl ⟨rfl,trivial⟩⟩
theorem uF{w:World}{S:Nat→Prop}{d:Nat}{r:Ty}{a:Option Addr}{len cap:Nat}{ys:List r.D}{F:AB1}(h:Ow w S (d+1) (.sl r) [.slice a len cap] ys F){off n:Nat}(hn:off+n≤ys.length):
  ∃F1 F2,F.Perm (F1++F2)∧Ow w S (d+1) (.sl r) [N5 r.n off n a cap] ((ys.drop off).take n) F1:=by
 simp only[Ow]at h⊢;obtain⟨a',cap',e,hc,h⟩:=h;simp only[AK_,Value.slice.injEq,AL0]at e;obtain⟨rfl,rfl,rfl⟩:=e;have hl:((ys.drop off).take n).length=n:=by simp;omega
 by_cases h0:cap=off
 ·subst h0
  refine⟨[],F,by simp,a,0,by simp[N5,hl],by rw[hl];omega,.inl ⟨rfl,rfl⟩⟩
 ·rcases h with⟨h,rfl⟩|⟨b,o,arr,ty,fr,Fs,rfl,hb,Mm,hu,rfl,hFl,hr⟩
  ·refine⟨[],[],by simp,a.map (·.add (off*r.n)),cap-off,by simp[N5,hl,h0],by rw[hl];omega,.inl ⟨by omega,rfl⟩⟩
  ·have p:Fs.flatten.Perm (((Fs.drop off).take n).flatten++((Fs.take off).flatten++(Fs.drop (off+n)).flatten)):=by
    have e:Fs=Fs.take off++(((Fs.drop off).take n)++Fs.drop (off+n)):=by
     rw[←List.drop_drop,AOK,AOK]
    conv=>lhs;rw[e]
    rw[AL8,AL8,←AIg,←AIg];exact AKs _ AK7
   refine⟨b::((Fs.drop off).take n).flatten,(Fs.take off).flatten++(Fs.drop (off+n)).flatten,List.Perm.cons b p,some ⟨b,o+off*r.n,none⟩,cap-off,?_,by rw[hl];omega,.inr ⟨b,o+off*r.n,arr,ty,fr,_,rfl,hb,?_,hu,rfl,?_,?_⟩⟩
   ·simp[N5,h0,hl,Addr.add_eq]
   ·have:off*r.n+(cap-off)*r.n=cap*r.n:=by rw[←AL4];congr 1;omega
    omega
   ·rw[hl];simp;omega
   ·intro i y G hy hG
    have hi:=(AIE.1 hy).1;rw[hl]at hi;rw[List.getElem?_take_of_lt hi,ANq]at hy hG;obtain⟨cs,c1,c2,c3⟩:=hr (off+i) y G hy hG;refine⟨cs,c1,?_,c3⟩;rw[AL4,←ANz]at c2;exact c2
theorem Le.keep{E E':Env}(h:Le E E'){w:World}{vw:List Bx}(st:∀c,E.S c→E.T c):PI E w vw E' w vw:=
 ⟨ALE _,fun b _=>by rw[h.GB],h.T,h.S,st,fun _ _=>rfl,fun b d r rows _ e=>⟨d,rows,e,fun p hp q ys hg=>⟨hp,⟨ys,hg,rfl⟩,fun h' hh=>by rw[h.GQ];exact hh⟩⟩⟩
theorem CR.share{E:Env}{w:World}{vw bx:List Bx}{F W G:AB1}(h:CR E w vw bx (F++W++G)):
  let E':Env:={ E with S:=fun c=>E.S c∨c∈W,T:=fun c=>E.T c∨c∈W }
  Le E E'∧CR E' w vw bx (F++G):=by
 intro E';have st:=h.st;have hle:Le E E':=⟨rfl,rfl,fun c hc=> .inl hc,fun c hc=> .inl hc,fun c hc=>hc.elim .inl fun h' => .inr (.inr h'),fun c hc=>hc.elim .inl fun h' => .inr (h.uO c (by simp[h']))⟩;refine⟨hle,?_⟩;obtain⟨Fs,⟨h1,h2⟩,h3⟩:=h;refine⟨Fs,⟨h1,fun k B F' hk hF=> ?_⟩,?_⟩
 ·have:=h2 k B F' hk hF
  cases B with
  |mem cs=>
   obtain⟨rfl,arr,ty,fr,a1,a2,a3⟩:=this;exact⟨rfl,arr,ty,fr,a1,a2,a3.imp fun _ _ hv=>EW (hle.keep st) hv⟩
  |sl d r rows=>exact⟨this.1,DB hle.S (fun _ _=>rfl) (fun _ _=>rfl) this.2⟩
  |dead=>exact this
 ·have h4:Sep E w (W++(Fs.flatten++(F++G))):=h3.perm (by
   rw[AIg F W G,←AIg Fs.flatten,←AIg (Fs.flatten++F),←AIg Fs.flatten F G,←AIg W];exact AKs _ AK7)
  refine⟨(AJq.1 h4.nodup).2.1,fun c hc ht=> ?_,fun c hc=>h4.lt c (by simp only[AJ6];exact .inr (by simpa using hc)),fun c hc=>hc.imp (st c) id,fun c hc=>hc.elim (h4.ZB c) fun h' =>h4.lt c (by simp[h'])⟩;rcases ht with ht|ht
  ·exact h4.free c (AJ6.2 (.inr hc)) ht
  ·exact(AJq.1 h4.nodup).2.2 c ht c hc rfl
structure FG (E:Env) (w:World) (vw bx:List Bx) (G:AB1) (E':Env) (NG:List Bx) (F:AB1):Prop where
 le:Le E E'
 len:NG.length=bx.length
 within:∀(b:Nat) (B:Bx),NG[b]? =some B→B= .dead∨bx[b]? =some B
 boxes:CR E' w vw NG (F++G)
theorem FG.refl{E:Env}{w:World}{vw bx:List Bx}{G:AB1}(h:CR E w vw bx G):FG E w vw bx G E bx []:=
 ⟨Le.refl E,rfl,fun _ _ h=> .inr h,h⟩
theorem Di.gz{E E':Env}{w:World}{vw bx NG:List Bx}{G F:AB1}(h:Di bx vw)(k:FG E w vw bx G E' NG F):Di NG vw:=fun b B e=>
 (k.within b B e).elim .inl (h b B)
theorem WC{E:Env}{w:World}{vw bx:List Bx}{G:AB1}(h:CR E w vw bx G)(hw:Di bx vw){d:Nat}(hd:1≤d){t:Ty}{x:AV}{v:Value}(hv:VR E w vw x v){y:t.D}{NG:List Bx}{d':Nat}
  (e:Xs d t x bx=some (y,NG,d')):1≤d'∧d'≤d∧ ∃E' F,FG E w vw bx G E' NG F∧Ow w E'.S (d'-1) t [v] y F:=by
 unfold Xs at e;split at e
 ·rename_i u z
  simp only[AIX,ALD]at e;obtain⟨z',e1,rfl,rfl,rfl⟩:=e;obtain⟨e2,e3⟩:=F_ e1;subst e2;subst e3;refine⟨hd,ALE _,E,[],FG.refl h,?_⟩;obtain⟨hs,hr⟩:=hv;cases u<;>simp_all[Ty.scalar,Ow,Rd]
 ·split at e
  ·simp only[AIK,ALD]at e
   obtain⟨rfl,rfl,rfl⟩:=e;simp only[VR]at hv;subst hv;exact⟨hd,ALE _,E,[],FG.refl h,iS⟩
  ·cases e
 ·rename_i r z
  split at e
  ·rename_i q
   simp only[AIX,ALD]at e;obtain⟨z',e1,rfl,rfl,rfl⟩:=e;obtain⟨e2,e3⟩:=F_ e1;subst e2;subst e3;refine⟨ALE _,hd,E,[],FG.refl h,?_⟩;simp only[VR]at hv;simp only[AOF,Ow];exact⟨by simpa using hv,trivial⟩
  ·cases e
 ·rename_i b
  split at e
  case h_2=>cases e
  rename_i q;split at e
  case h_2=>cases e
  rename_i db r z hb;simp only[AIX,ALD]at e;obtain⟨z',e1,rfl,rfl,rfl⟩:=e;obtain⟨e2,e3⟩:=F_ e1;subst e2;subst e3;obtain⟨F0,⟨hd1,ho⟩,hB⟩:=h.take hb;have hvv:v=E.GQ b:=by
   simp only[VR,UT hw hb,CE]at hv;simpa using hv.2.2.2.symm
  subst hvv;obtain⟨F1,W,hp,od⟩:=Hr (d:=min d (db+1)-1) (by omega) ho;have Oa:=hB.perm (AKs G hp);obtain⟨hle,Sm⟩:=Oa.share;refine⟨by omega,Nat.min_le_left _ _,_,F1,⟨hle,by simp,fun k B hk=> ?_,Sm⟩,od⟩;by_cases ek:k=b
  ·subst ek
   rw[AKW (AIE.1 hb).1]at hk;cases hk;exact .inl rfl
  ·rw[AJo (by omega)]at hk;exact .inr hk
 ·rename_i b off n
  split at e
  case h_2=>cases e
  rename_i q;split at e
  case h_2=>cases e
  rename_i db r z hb;simp only[AIX,ALD]at e;obtain⟨z',e1,rfl,rfl,rfl⟩:=e;obtain⟨e2,e3⟩:=F_ e1;subst e2;subst e3;obtain⟨F0,⟨hd1,ho⟩,hB⟩:=h.take hb;simp only[VR,UT hw hb,CE]at hv;obtain⟨_,_,q',ys,a,len,cap,hg,hn,hh,rfl⟩:=hv;simp only[E6,AIK,AKo]at hg;obtain⟨rfl,hg⟩:=hg;obtain rfl:=ALA hg;simp only[AIK]at hh;rw[hh]at ho;obtain⟨db,rfl⟩:∃m,db=m+1:=⟨db-1,by omega⟩;obtain⟨A1,A2,hp0,ho0⟩:=uF ho hn;obtain⟨F1,W,hp,od⟩:=Hr (d:=min d (db+1+1)-1) (by omega) ho0;have hB1:CR E w vw (bx.set b .dead) (A1++G):=by
   refine CR.drop (G':=A2) (hB.perm ?_);refine(AKs G hp0).trans ?_
   rw[AIg,AIg];exact AK6 _ AK7
  have Oa:=hB1.perm (AKs G hp);obtain⟨hle,Sm⟩:=Oa.share;refine⟨by omega,Nat.min_le_left _ _,_,F1,⟨hle,by simp,fun k B hk=> ?_,Sm⟩,od⟩;by_cases ek:k=b
  ·subst ek
   rw[AKW (AIE.1 hb).1]at hk;cases hk;exact .inl rfl
  ·rw[AJo (by omega)]at hk;exact .inr hk
 ·cases e
theorem VD{w:World}{vw:List Bx}:∀{r:Ty} {E:Env} {bx:List Bx} {G:AB1} {d:Nat} {l:List AV} {vs:List Value} {y:r.D} {NG:List Bx} {d':Nat},CR E w vw bx G→Di bx vw→1≤d→
  bR E w vw l vs→cellsIn d r l bx=some (y,NG,d')→1≤d'∧d'≤d∧ ∃E' F,FG E w vw bx G E' NG F∧Ow w E'.S (d'-1) r vs y F
 | .unit,E,bx,G,d,[],[],y,NG,d',h,hw,hd,_,e=>by
  simp only[cellsIn,AIK,ALD]at e;obtain⟨_,rfl,rfl⟩:=e;exact⟨hd,ALE _,E,[],FG.refl h,by simp only[Ow];exact⟨trivial,trivial⟩⟩
 | .cons c r,E,bx,G,d,x::l,v::vs,y,NG,d',h,hw,hd,hv,e=>by
  simp only[cellsIn,AIm,AIX,ALD]at e;obtain⟨⟨y1,aH,d1⟩,e1,⟨y2,VP,d2⟩,e2,rfl,rfl,rfl⟩:=e;dsimp only at e2⊢;obtain⟨a1,a2,E1,F1,k1,o1⟩:=WC h hw hd hv.1 e1;have nj:=k1.le.keep (w:=w) (vw:=vw) h.st;obtain⟨b1,b2,E2,F2,k2,o2⟩:=VD (G:=F1++G) k1.boxes (hw.gz k1) a1 (hv.2.imp fun _ _ h=>EW nj h) e2;obtain⟨A,W,hp,o1'⟩:=Hr (d:=d'-1) (by omega) o1;have hB:=k2.boxes.perm (G':=(F2++A)++W++G) (by
   rw[AIg F2 A W,AIg F2];exact AK6 _ (AKs _ hp))
  obtain⟨hle,Sm⟩:=hB.share;refine⟨b1,ALM b2 a2,_,A++F2,⟨(k1.le.trans k2.le).trans hle,k2.len.trans k1.len,fun b B hb=>(k2.within b B hb).elim .inl (k1.within b B),Sm.perm (AKs _ AK7)⟩,?_⟩;simp only[Ow];refine⟨v,vs,A,F2,rfl,rfl,?_,?_⟩
  ·refine DB (S:=fun b=>E1.S b∨b∈W) ?_ (fun _ _=>rfl) (fun _ _=>rfl) o1'
   intro c hc;exact hc.elim (fun h=> .inl (k2.le.S c h)) .inr
  ·refine DB (S:=E2.S) ?_ (fun _ _=>rfl) (fun _ _=>rfl) o2
   intro c hc;exact .inl hc
 | .unit,_,_,_,_,_::_,_,_,_,_,_,_,_,_,e=>by simp[cellsIn]at e
 | .unit,_,_,_,_,[],_::_,_,_,_,_,_,_,hv,_=>hv.elim
 | .cons _ _,_,_,_,_,[],_,_,_,_,_,_,_,_,e=>by simp[cellsIn]at e
 | .cons _ _,_,_,_,_,_::_,[],_,_,_,_,_,_,hv,_=>hv.elim
 | .int _,_,_,_,_,_,_,_,_,_,_,_,_,_,e=>by simp[cellsIn]at e
 | .bool,_,_,_,_,_,_,_,_,_,_,_,_,_,e=>by simp[cellsIn]at e
 | .str,_,_,_,_,_,_,_,_,_,_,_,_,_,e=>by simp[cellsIn]at e
 | .sl _,_,_,_,_,_,_,_,_,_,_,_,_,_,e=>by simp[cellsIn]at e
theorem kh{E:Env}{w:World}{vw:List Bx}{x:AV}{v:Value}(h:VR E w vw x v)(hk:x.known=true):v.oneCell' =true∧v.cells= #[v]:=by
 have aux:∀{v:Value},isSlice v=true→v.oneCell' =true∧v.cells= #[v]:=by intro v h;cases v<;>simp_all[isSlice,Value.oneCell',Value.cells]
 have ALu:∀{v:Value},XM v=true→v.oneCell' =true∧v.cells= #[v]:=by intro v h;cases v<;>simp_all[XM,Value.oneCell',Value.cells]
 cases x with
 |v t y=>
  obtain⟨hs,hr⟩:=h;cases t<;>simp[Ty.scalar]at hs<;>simp only[Rd,AK_,AL0]at hr<;>subst hr<;>exact⟨rfl,rfl⟩
 |sl s r y=>
  simp only[VR,Rd]at h;obtain⟨a,cap,h,_⟩:=h;simp only[AK_,AL0]at h;subst h;exact⟨rfl,rfl⟩
 |nil=>simp only[VR]at h;subst h;exact⟨rfl,rfl⟩
 |ref b p=>exact aux h.1
 |XT b p off n=>exact aux h.1
 |GA b j=>rw[h.2];exact⟨rfl,rfl⟩
 |HW b p i sz j=>exact ALu h.1
 |K4 s r y j=>obtain⟨bb,o,cs,rfl,_⟩:=h;exact⟨rfl,rfl⟩
 |fn f Hg=>rw[h.2];exact⟨rfl,rfl⟩
 |kJ f rows=>obtain⟨ps,rfl,_⟩:=h;exact⟨rfl,rfl⟩
 |oX=>simp only[VR]at h;subst h;exact⟨rfl,rfl⟩
 |undef=>simp[AV.known]at hk
theorem qo{E:Env}{w:World}{vw:List Bx}:∀{l:List AV} {vs:List Value},bR E w vw l vs→l.all AV.known=true→ ∀v∈vs,v.oneCell' =true
 |[],[],_,_=>by simp
 |x::l,v::vs,h,hk=>by
  simp only[ANP,AIo]at hk;intro u hu;rcases AKv.1 hu with rfl|hu
  ·exact(kh h.1 hk.1).1
  ·exact qo h.2 hk.2 u hu
theorem gx{E:Env}{w:World}{vw:List Bx}{x:XV}{v:Value}(h:XR E w vw x v)(hk:x.cells.all AV.known=true)(hn:x.cells≠[]):bR E w vw x.cells v.cells.toList∧ ∀u∈v.cells.toList,u.oneCell' =true:=by
 cases x with
 |c x=>
  have h':VR E w vw x v:=h;obtain⟨h1,h2⟩:=kh h' (by simpa[XV.cells]using hk);rw[h2];exact⟨⟨h',trivial⟩,by simpa using h1⟩
 |agg l=>
  obtain⟨vs,rfl,TE⟩:=h;exact⟨TE,qo TE hk⟩
 |Kv l=>simp[XV.cells]at hn
theorem nx{w:World}{vw:List Bx}{r:Ty}{E:Env}{bx:List Bx}{G:AB1}{d:Nat}{x:XV}{v:Value}{y:r.D}{NG:List Bx}{d':Nat}(h:CR E w vw bx G)(hw:Di bx vw)(hd:1≤d)
  (hv:XR E w vw x v) (e:uo d r x bx=some (y,NG,d')):1≤d'∧d'≤d∧ ∃E' F,FG E w vw bx G E' NG F∧Ow w E'.S (d'-1) r v.cells.toList y F:=by
 unfold uo at e;split at e
 ·rename_i l
  obtain⟨vs,rfl,TE⟩:=hv;exact VD h hw hd TE e
 ·rename_i x
  have W4:VR E w vw x v:=hv;have hk:x.known=true:=by cases x<;>simp_all[AV.known,Xs]
  rw[(kh W4 hk).2];exact WC h hw hd W4 e
 ·cases e
end Go.Fw
end
section
namespace Go.Fw
def Env.WW(E:Env)(n:Nat)(h:Value):Env:={ E with GQ:=fun k=>if k=n then h else E.GQ k }
def Env.Yb(E:Env)(n b:Nat):Env:={ E with GB:=fun k=>if k=n then b else E.GB k }
theorem Zz{E E1 E':Env}{w w':World}{vw aH NG:List Bx}{F:AB1}(k:FG E w vw vw [] E1 aH F)(st:∀c,E.S c→E.T c)(hlen:vw.length≤NG.length)
  (bE:∀b B,b<vw.length→NG[b]? =some B→aH[b]? =some B) (lE:∀b,b<vw.length→E'.GB b=E1.GB b) (Xt:∀b,b<vw.length→E'.GQ b=E1.GQ b) (hT:E'.T=E1.T) (hS:E'.S=E1.S)
  (hw:∀c,c<w.heap.size→c∉F→w'.heap[c]? =w.heap[c]?):PI E w vw E' w' NG:=by
 have hB:=k.boxes;obtain⟨Fs,⟨h1,h2⟩,h3⟩:=hB;simp only[AKb]at h3;have hT':∀c,E1.T c→w'.heap[c]? =w.heap[c]?:=fun c hc=>hw c (h3.ZB c hc) fun hf=>h3.free c (by simp[hf]) hc
 refine⟨hlen,fun b hb=>by rw[lE b hb,k.le.GB],fun c hc=>by rw[hT];exact k.le.T c hc,fun c hc=>by rw[hS];exact k.le.S c hc,st,fun c hc=>hT' c (k.le.T c hc),fun b d r rows hb e=> ?_⟩;have e1:=bE b _ hb e;rcases k.within b _ e1 with e2|e2
 ·cases e2
 ·refine⟨d,rows,e2,fun p hp q ys hg=>⟨hp,⟨ys,hg,rfl⟩,fun h' hh=> ?_⟩⟩
  have hF:Fs[b]? =some (Fs[b]'(by have:=(AIE.1 e1).1;omega)):=AIH _;obtain⟨hd,ho⟩:=h2 b _ _ e1 hF;rw[Xt b hb];rw[←k.le.GQ]at hh;refine lx ho (fun c hc=>hT' c (h3.st c hc)) (fun c hc=> ?_) hp hg hh;have XY:c∈Fs.flatten:=AK9.2 ⟨_,AKh hF,hc⟩;exact hw c (h3.lt c (by simp[XY])) fun hf=>(AJq.1 h3.nodup).2.2 c XY c hf rfl
structure Grown (w w':World):Prop where
 os:w'.os=w.os
 tape:w'.tape=w.tape
 output:w'.output=w.output
 size:w.heap.size≤w'.heap.size
theorem Px{E E1:Env}{σ:St}{a:Act}{w w':World}{aH:List Bx}{F F':AB1}(h:Rel E σ a w)(k:FG E w σ.bx σ.bx [] E1 aH F){v:Value}{d:Nat}{r:Ty}{rows:List r.D}(hd:1≤d)
  (ho:Ow w' E1.S d (.sl r) [v] rows F') (hF':∀c∈F',c∈F∨w.heap.size≤c) (nd:F'.Nodup) (Dj:∀c∈F',c<w'.heap.size) (hw:∀c,c<w.heap.size→c∉F→w'.heap[c]? =w.heap[c]?) (g:Grown w w'):
  let E':=E1.WW aH.length v
  Rel E' { σ with bx:=aH++[.sl d r rows] } a w'∧Nx [] E σ.bx w E' (aH++[.sl d r rows]) w'∧XR E' w' (aH++[.sl d r rows]) (.c (.ref aH.length [])) v:=by
 intro E';have st:=h.bx.st;have hn:=k.len;have keep:PI E w σ.bx E' w' (aH++[.sl d r rows]):=Zz k st (by simp[hn]) (fun b B hb e=>by
   rw[AJI (by omega)]at e;exact e) (fun b _=>rfl) (fun b hb=>by simp[E',Env.WW];intro e;omega) rfl rfl hw
 have nj:PI E1 w σ.bx E' w' (aH++[.sl d r rows]):=by
  have k':FG E1 w σ.bx σ.bx [] E1 aH F:=⟨Le.refl _,k.len,k.within,k.boxes⟩;exact Zz k' k.boxes.st (by simp[hn]) (fun b B hb e=>by
   rw[AJI (by omega)]at e;exact e) (fun b _=>rfl) (fun b hb=>by simp[E',Env.WW];intro e;omega) rfl rfl hw
 obtain⟨Fs,⟨h1,h2⟩,h3⟩:=k.boxes;simp only[AKb]at h3;have hT':∀c,E1.T c→w'.heap[c]? =w.heap[c]?:=fun c hc=>hw c (h3.ZB c hc) fun hf=>h3.free c (by simp[hf]) hc
 have hF0:∀c∈Fs.flatten,w'.heap[c]? =w.heap[c]?:=fun c hc=>hw c (h3.lt c (by simp[hc])) fun hf=>(AJq.1 h3.nodup).2.2 c hc c hf rfl
 refine⟨⟨h.Kk,h.tm.imp fun _ _ hx=>L9 keep hx,?_⟩,?_,?_⟩
 ·refine⟨Fs++[F'],⟨by simp[h1],fun n B G hB hG=> ?_⟩,?_⟩
  ·by_cases l9:n<aH.length
   ·rw[AJI l9]at hB
    rw[AJI (by omega)]at hG;have:=h2 n B G hB hG;have hGw:∀c∈G,w'.heap[c]? =w.heap[c]?:=fun c hc=>hF0 c (AK9.2 ⟨G,AKh hG,hc⟩)
    cases B with
    |mem cs=>
     obtain⟨rfl,arr,ty,fr,a1,a2,a3⟩:=this;exact⟨rfl,arr,ty,fr,(hGw (E1.GB n) (by simp)).trans a1,a2,a3.imp fun _ _ hv=>EW nj hv⟩
    |sl d0 r0 Na=>
     refine⟨this.1,?_⟩;have e0:E'.GQ n=E1.GQ n:=by simp[E',Env.WW];intro e;omega
     rw[e0];exact DB (fun _ hc=>hc) (fun c hc=>hT' c (h3.st c hc)) hGw this.2
    |dead=>exact this
   ·have qB:=(AIE.1 hB).1
    simp at qB;obtain rfl:n=aH.length:=by omega
    rw[AKi (by omega)]at hB hG;simp[h1]at hB hG;subst hB hG;refine⟨hd,?_⟩;have e0:E'.GQ aH.length=v:=by simp[E',Env.WW]
    rw[e0];exact ho
  ·simp only[AL8,ALO,AOD,AKb]
   have nd0:=AJq.1 h3.nodup;refine⟨AJq.2 ⟨nd0.1,nd,fun x hx y hy e=> ?_⟩,fun c hc ht=> ?_,fun c hc=> ?_,h3.st,fun c hc=>ALH (h3.ZB c hc) g.size⟩
   ·subst e
    rcases hF' x hy with h|h
    ·exact nd0.2.2 x hx x h rfl
    ·have:=h3.lt x (by simp[hx]);omega
   ·rcases AJ6.1 hc with hc|hc
    ·exact h3.free c (by simp[hc]) ht
    ·rcases hF' c hc with h|h
     ·exact h3.free c (by simp[h]) ht
     ·have:=h3.ZB c ht;omega
   ·rcases AJ6.1 hc with hc|hc
    ·exact ALH (h3.lt c (by simp[hc])) g.size
    ·exact Dj c hc
 ·refine⟨⟨k.le.T,k.le.S,k.le.Tof,k.le.qj,fun c hc=>hT' c (k.le.T c hc),g.os,g.tape,g.output,g.size⟩,by simp[hn],fun b hb=>⟨by show E1.GB b=_;rw[k.le.GB],?_⟩,fun b hb=> ?_,fun n B B' _ hB Oa qk=> ?_⟩
  ·have:E'.GQ b=E1.GQ b:=by simp[E',Env.WW];intro e;omega
   rw[this,k.le.GQ]
  ·have oK:=(AIE.1 hb).1
   rw[AJI (by omega)];obtain⟨B,hB⟩:∃B,aH[b]? =some B:=⟨_,AIH (by omega)⟩;rcases k.within b B hB with e|e
   ·rw[hB,e]
   ·rw[hb]at e;rw[hB];exact e.symm
  ·have l9:=(AIE.1 hB).1
   rw[AJI (by omega)]at Oa;rcases k.within n B' Oa with e|e
   ·exact absurd e qk
   rw[hB]at e;cases e;refine⟨RC.refl qk,fun c hc=> ?_⟩;have hF:Fs[n]? =some (Fs[n]'(by have:=(AIE.1 Oa).1;omega)):=AIH _;have hR:=h2 n B _ Oa hF;have ZL:oJ E1 w n B c:=by
    cases B with
    |mem cs=>simp only[oJ]at hc⊢;rw[k.le.GB];exact hc
    |sl d r rows=>simp only[oJ]at hc⊢;rw[k.le.GQ];exact hc
    |dead=>exact hc
   rcases YX hR ZL with hs|hs
   ·exact hT' c (h3.st c hs)
   ·exact hF0 c (AK9.2 ⟨_,AKh hF,hs⟩)
 ·have e0:E'.GQ aH.length=v:=by simp[E',Env.WW]
  refine⟨?_,?_⟩
  ·have:=Uh ho
   simp only[Rd]at this;obtain⟨_,_,e,_⟩:=this;simp only[AK_,AL0]at e;rw[e];rfl
  ·have:(aH++[Bx.sl d r rows])[aH.length]? =some (.sl d r rows):=by simp
   rw[this];exact⟨by simp[CX],⟨_,rfl⟩,by rw[e0,CE]⟩
theorem f_{E:Env}{σ:St}{a:Act}{w:World}(h:Rel E σ a w){cs:List AV}{arr:Array Value}(ty:TypeId)(hv:bR E w σ.bx cs arr.toList):
  let E':=E.Yb σ.bx.length w.heap.size
  let w':=w.alloc (.cells arr ty)
  Rel E' (σ.new (.mem cs)) a w'∧Nx [] E σ.bx w E' (σ.new (.mem cs)).bx w'∧XR E' w' (σ.new (.mem cs)).bx (.c (.GA σ.bx.length 0)) (.pointer (some ⟨w.heap.size,0,none⟩)):=by
 intro E' w';have st:=h.bx.st;have hw:∀c,c<w.heap.size→c∉([]:AB1)→w'.heap[c]? =w.heap[c]?:=fun c hc _=>by
  show(w.heap.push (.cells arr ty))[c]? =_
  rw[Array.getElem?_push,AIU (by omega)]
 have hB0:=h.bx;have keep:PI E w σ.bx E' w' (σ.bx++[.mem cs]):=Zz (FG.refl hB0) st (by simp) (fun b B hb e=>by
   rw[AJI (by omega)]at e;exact e) (fun b hb=>by simp[E',Env.Yb];intro e;omega) (fun b _=>rfl) rfl rfl hw
 obtain⟨Fs,⟨h1,h2⟩,h3⟩:=h.bx;simp only[AKb]at h3;have new:w'.heap[w.heap.size]? =some (.cells arr ty):=by
  show(w.heap.push (.cells arr ty))[w.heap.size]? =_
  simp
 refine⟨⟨h.Kk,h.tm.imp fun _ _ hx=>L9 keep hx,?_⟩,?_,?_⟩
 ·refine⟨Fs++[[w.heap.size]],⟨by simp[St.new,h1],fun n B G hB hG=> ?_⟩,?_⟩
  ·simp only[St.new]at hB
   by_cases l9:n<σ.bx.length
   ·rw[AJI l9]at hB
    rw[AJI (by omega)]at hG;have:=h2 n B G hB hG;have hGw:∀c∈G,w'.heap[c]? =w.heap[c]?:=fun c hc=>hw c (h3.lt c (by simp;exact⟨G,AKh hG,hc⟩)) (by simp)
    have eb:E'.GB n=E.GB n:=by simp[E',Env.Yb];intro e;omega
    cases B with
    |mem cs0=>
     obtain⟨rfl,arr0,ty0,fr,a1,a2,a3⟩:=this;refine⟨by rw[eb],arr0,ty0,fr,?_,a2,a3.imp fun _ _ hv=>EW keep hv⟩;rw[eb];exact(hGw (E.GB n) (by simp)).trans a1
    |sl d0 r0 Na=>exact⟨this.1,DB (fun _ hc=>hc) (fun c hc=>hw c (h3.ZB c (st c hc)) (by simp)) hGw this.2⟩
    |dead=>exact this
   ·have qB:=(AIE.1 hB).1
    simp at qB;obtain rfl:n=σ.bx.length:=by omega
    rw[AKi (by omega)]at hB hG;simp[h1]at hB hG;subst hB hG;have eb:E'.GB σ.bx.length=w.heap.size:=by simp[E',Env.Yb]
    refine⟨by rw[eb],arr,ty,(0,0),by rw[eb];exact new,fun i _ h=>by omega,hv.imp fun _ _ hv=>EW keep hv⟩
  ·simp only[AL8,ALO,AOD,AKb]
   refine⟨AJq.2 ⟨h3.nodup,by simp,fun x hx y hy e=> ?_⟩,fun c hc ht=> ?_,fun c hc=> ?_,h3.st,fun c hc=> ?_⟩
   ·subst e
    simp at hy;have:=h3.lt x hx;omega
   ·rcases AJ6.1 hc with hc|hc
    ·exact h3.free c hc ht
    ·simp at hc;have:=h3.ZB c ht;omega
   ·rcases AJ6.1 hc with hc|hc
    ·have:=h3.lt c hc;simp[w'];omega
    ·simp at hc;simp[w'];omega
   ·have:=h3.ZB c hc;simp[w'];omega
 ·refine⟨⟨fun _ h=>h,fun _ h=>h,fun _ h=> .inl h,fun _ h=> .inl h,fun c hc=>hw c (h3.ZB c hc) (by simp),rfl,rfl,rfl,by simp[w']⟩,by simp[St.new],fun b hb=>⟨?_,rfl⟩,fun b hb=> ?_,fun n B B' _ hB Oa qk=> ?_⟩
  ·simp[E',Env.Yb];intro e;omega
  ·have oK:=(AIE.1 hb).1
   simp only[St.new];rw[AJI oK];exact hb
  ·have l9:=(AIE.1 hB).1
   simp only[St.new]at Oa;rw[AJI l9,hB]at Oa;cases Oa;refine⟨RC.refl qk,fun c hc=> ?_⟩;have hF:Fs[n]? =some (Fs[n]'(by omega)):=AIH _;rcases YX (h2 n B _ hB hF) hc with hs|hs
   ·exact hw c (h3.ZB c (st c hs)) (by simp)
   ·exact hw c (h3.lt c (AK9.2 ⟨_,AKh hF,hs⟩)) (by simp)
 ·refine⟨by simp[St.new],?_⟩
  simp[E',Env.Yb]
end Go.Fw
end
section
namespace Go.Fw
theorem Hk:∀r:Ty,(EX r).length=r.n
 | .cons c r=>by simp[EX,Ty.n,Hk r]
 | .unit=>rfl
 | .int _=>rfl
 | .bool=>rfl
 | .str=>rfl
 | .sl _=>rfl
theorem Vn{E:Env}{w:World}{vw:List Bx}(t:Ty):VR E w vw (pY t) (zv t):=by
 cases t<;>first
  |exact VR.int _ _
  |exact VR.bool _
  |exact VR.str _
  |rfl
  |trivial
theorem UH{E:Env}{w:World}{vw:List Bx}:∀r:Ty,bR E w vw (WL r) (EX r)
 | .cons c r=>⟨Vn c,UH r⟩
 | .unit=>trivial
 | .int k=>⟨Vn (.int k),trivial⟩
 | .bool=>⟨Vn .bool,trivial⟩
 | .str=>⟨Vn .str,trivial⟩
 | .sl r=>⟨Vn (.sl r),trivial⟩
theorem au{w:World}{S:Nat→Prop}{d:Nat}:∀{r:Ty},r.ks=true→Ow w S d r (EX r) r.z []
 | .cons c r,h=>by
  simp only[Ty.ks,AIo]at h;simp only[Ow,EX];refine⟨_,_,[],[],rfl,rfl,?_,au h.2⟩;cases c with
  |sl q=>exact iS
  |int k=>simp[Ow,zv,Ty.z]
  |bool=>simp[Ow,zv,Ty.z]
  |str=>simp[Ow,zv,Ty.z]
  |unit=>simp[Ty.cell]at h
  |cons _ _=>simp[Ty.cell]at h
 | .unit,_=>by simp[Ow,EX]
 | .int k,_=>by simp[Ow,EX,zv,Ty.z]
 | .bool,_=>by simp[Ow,EX,zv,Ty.z]
 | .str,_=>by simp[Ow,EX,zv,Ty.z]
 | .sl q,_=>iS
theorem Xi{n:Nat}:∀{css:List (List Value)} {ex:List Value} {i j:Nat} {cs:List Value},(∀c∈css,c.length=n)→css[i]? =some cs→j<n→(css.flatten++ex)[i*n+j]? =cs[j]?
 |[],_,_,_,_,_,h,_=>by simp at h
 |c::css,ex,0,j,cs,hl,h,hj=>by
  simp at h;subst h;have:=hl c (by simp);simp only[ALO,AIg,Nat.zero_mul,AL1];rw[AJI (by omega)]
 |c::css,ex,i+1,j,cs,hl,h,hj=>by
  have hc:=hl c (by simp);have ih:=Xi (css:=css) (ex:=ex) (i:=i) (j:=j) (cs:=cs) (fun c' ZL=>hl c' (ANM _ ZL)) (by simpa using h) hj;simp only[ALO,AIg];rw[AKi (by rw[AL4];omega),←ih];congr 1;rw[AL4,hc];omega
theorem eJ{w:World}{b:Nat}{arr:Array Value}{ty:TypeId}{fr:ADF}(hb:w.heap[b]? =some (.cells arr ty fr)){n:Nat}{css:List (List Value)}{ex:List Value}(ha:arr.toList=css.flatten++ex)
  (hl:∀c∈css,c.length=n) {i:Nat} {cs:List Value} (h:css[i]? =some cs):B7 w b (i*n) cs:=by
 intro j v hj;have hjn:j<n:=by
  have:=(AIE.1 hj).1;rw[hl cs (AKh h)]at this;exact this
 simp only[World.cell?,hb,AMY,AJp,ALG];rw[←Array.getElem?_toList,ha,Xi hl h hjn,hj]
theorem an{w:World}{S:Nat→Prop}{d b cap:Nat}{r:Ty}{rows:List r.D}{arr:Array Value}{ty:TypeId}{fr:ADF}(hb:w.heap[b]? =some (.cells arr ty fr)){css:List (List Value)}{ex:List Value}
  (ha:arr.toList=css.flatten++ex) (hc:css.length=rows.length) (vj:rows.length≤cap) (Mm:cap*r.n≤arr.size) (hu:oh fr (arr.size+mk r)) {Fs:List AB1} (hF:Fs.length=rows.length)
  (W_:∀(i:Nat) cs y G,css[i]? =some cs→rows[i]? =some y→Fs[i]? =some G→Ow w S d r cs y G):
  Ow w S (d+1) (.sl r) [.slice (some ⟨b,0,none⟩) rows.length cap] rows (b::Fs.flatten):=by
 have hl:∀c∈css,c.length=r.n:=by
  intro c ZL;obtain⟨i,hi,rfl⟩:=ALr ZL;exact Sr (W_ i _ _ _ (AIH hi) (AIH (by omega)) (AIH (by omega)))
 simp only[Ow];refine⟨_,cap,rfl,vj,.inr ⟨b,0,arr,ty,fr,Fs,rfl,hb,by omega,hu,rfl,hF,fun i y G hy hG=> ?_⟩⟩;have hi:i<css.length:=by
  have:=(AIE.1 hy).1;omega
 refine⟨css[i],hl _ (AKp hi),?_,W_ i _ y G (AIH hi) hy hG⟩;rw[AL1];exact eJ hb ha hl (AIH hi)
theorem ca(n:Nat):oh (0,0) n:=fun i _ h=>by omega
theorem Md{w:World}{o:Obj}{c:Nat}(h:c<w.heap.size):(w.heap.push o)[c]? =w.heap[c]?:=by
 rw[Array.getElem?_push,AIU (by omega)]
section
variable{Y:Type} {P:Program} {T:Hq} (hT:D4 P T) {o:Oper} {E:Env} {σ:St} {a:Act} {w:World} {k:K Y} {y:Y}
theorem uP(h:Rel E σ a w){t:TypeId}{x:Operand}(ho:o.op= .box t x)(hk:(σ.ev x).cells.all AV.known=true)(hn:(σ.ev x).cells≠[])(e:k (.c (.GA σ.bx.length 0)) (σ.new (.mem (σ.ev x).cells))=some y):
  I5 P o E σ a w k y:=by
 obtain⟨h1,h2⟩:=gx (h.ev x) hk hn;obtain⟨r1,r2,r3⟩:=f_ h t h1;refine⟨_,_,_,_,_,.inl ?_,r1,r3,r2.any,rfl,e⟩;simp only[execOp,ho,Instr.box,newVar,newRow,Sem.run_bind,run_newObj,Result.andThen_ok,Sem.run_pure];rfl
include hT
theorem row_zero{t:Nat}{r:Ty}(e:T.aI t=some r):∃i z,P.info? t=some i∧i.zero=some z∧z.cells.toList=EX r∧r.ks=true:=by
 unfold Hq.aI at e;split at e
 ·rename_i ti N8
  obtain⟨i,h1,_,_,h2⟩:=(hT t ti N8).info;obtain⟨hg,z,h3,h4⟩:=h2 r e;exact⟨i,z,h1,h3,h4,hg⟩
 ·cases e
theorem pI(h:Rel E σ a w){t:TypeId}(ho:o.op= .alloc t){r:Ty}(hr:T.aI t=some r)(e:k (.c (.GA σ.bx.length 0)) (σ.new (.mem (WL r)))=some y):I5 P o E σ a w k y:=by
 obtain⟨i,z,h1,h2,h3,_⟩:=row_zero hT hr;obtain⟨r1,r2,r3⟩:=f_ (arr:=z.cells) h t (by rw[h3];exact UH r);refine⟨_,_,_,_,_,.inl ?_,r1,r3,r2.any,rfl,e⟩;simp only[execOp,ho,Instr.alloc,zeroValue,typeInfo,newVar,newRow,Sem.run_bind,run_program,Result.andThen_ok,h1,h2,run_newObj,Sem.run_pure];rfl
end
end Go.Fw
end
section
namespace Go.Fw
def ET(arr:Array Value):Nat→List Value→Array Value
 |_,[]=>arr
 |o,c::l=>ET (arr.setIfInBounds o c) (o+1) l
theorem IL:∀(l:List Value) (o:Nat) (arr:Array Value),(ET arr o l).size=arr.size
 |[],_,_=>rfl
 |c::l,o,arr=>by simp[ET,IL l]
theorem fl(off:Nat):∀(l:List Value) (k:Nat) (arr:Array Value),(l.zipIdx k).foldl (fun cs (q:Value×Nat)=>cs.setIfInBounds (off+q.2) q.1) arr=ET arr (off+k) l
 |[],_,_=>rfl
 |c::l,k,arr=>by
  simp only[List.zipIdx_cons,List.foldl_cons,ET];rw[fl off l (k+1)];rfl
theorem TS{E:Env}{w:World}{vw:List Bx}:∀{xs:List AV} {vs:List Value} {cs W0:List AV} {arr:Array Value} {o:Nat},bR E w vw cs arr.toList→bR E w vw xs vs→TZ cs o xs=some W0→
  bR E w vw W0 (ET arr o vs).toList∧o+xs.length≤cs.length∨(xs=[]∧W0=cs)
 |[],[],cs,W0,arr,o,h,_,e=>by simp only[TZ,AIK]at e;exact .inr ⟨rfl,e.symm⟩
 |x::xs,v::vs,cs,W0,arr,o,h,hx,e=>by
  simp only[TZ]at e;split at e
  case isFalse=>cases e
  rename_i ho;have h1:bR E w vw (cs.set o x) (arr.setIfInBounds o v).toList:=by
   rw[Array.toList_setIfInBounds];exact Bw.set h hx.1
  rcases TS h1 hx.2 e with⟨h2,h3⟩|⟨rfl,rfl⟩
  ·refine .inl ⟨h2,?_⟩
   simp at h3⊢;omega
  ·cases vs with
   |nil=>exact .inl ⟨h1,by simp;omega⟩
   |cons _ _=>exact hx.2.elim
 |[],_::_,_,_,_,_,_,hx,_=>hx.elim
 |_::_,[],_,_,_,_,_,hx,_=>hx.elim
section
variable{Y:Type} {P:Program} {T:Hq} (hT:D4 P T) {o:Oper} {E:Env} {σ:St} {a:Act} {w:World} {k:K Y} {y:Y}
def o_(E:Env)(w:World)(vw:List Bx)(l:List (Nat×XV))(m:List (Nat×Value)):Prop:=Bw (fun x v=>x.1=v.1∧XR E w vw x.2 v.2) l m
theorem iJ(h:Rel E σ a w)(ps:Array (Nat×Operand)):o_ E w σ.bx (ps.toList.map fun q=>(q.1,σ.ev q.2)) (ps.map fun(i,x)=>(i,a.eval x)).toList:=by
 rw[Array.toList_map]
 generalize ps.toList=l
 induction l with
 |nil=>trivial
 |cons q l ih=>exact⟨⟨rfl,h.ev q.2⟩,ih⟩
theorem jw{place:Nat→Option ADF}{i off size:Nat}(hp:place i=some (off,size)){cells:Array Value}{v:Value}{rest:List (Nat×Value)}(h1:v.cells.size=size)(h2:off+v.cells.size≤cells.size):
  Instr.fill place cells ((i,v)::rest)=Instr.fill place (ET cells off v.cells.toList) rest:=by
 have e:v.cells.zipIdx.foldl (fun cs (q:Value×Nat)=>cs.setIfInBounds (off+q.2) q.1) cells=ET cells off v.cells.toList:=by
  rw[←Array.foldl_toList];have:(v.cells.zipIdx).toList=v.cells.toList.zipIdx:=by simp
  rw[this];exact fl off v.cells.toList 0 cells
 conv=>lhs;unfold Instr.fill
 simp only[hp];rw[AIU (by simp;omega)];exact congrArg (fun c=>Instr.fill place c rest) e
theorem iR{α β:Type}{f:α→Option β}{g:α→β}:∀{l:List α},(∀x∈l,f x=some (g x))→l.mapM f=some (l.map g)
 |[],_=>rfl
 |x::l,h=>by
  simp only[AOT,h x (by simp),iR (l:=l) (g:=g) (fun y hy=>h y (by simp[hy]))];rfl
include hT
theorem Wh{fs:List ADF}{vw:List Bx}:∀{parts:List (Nat×XV)} {vals:List (Nat×Value)} {cs W0:List AV} {arr:Array Value},o_ E w vw parts vals→bR E w vw cs arr.toList→Zf T fs cs parts=some W0→
  ∃KQ:Array Value,Instr.fill (fun i=>(fs[i]?).bind fun q=>((P.info? q.2).map fun i=>(q.1,i.size))) arr vals=some KQ∧bR E w vw W0 KQ.toList
 |[],[],cs,W0,arr,_,h,e=>by
  simp only[Zf,AIK]at e;subst e;exact⟨arr,rfl,h⟩
 |(i,x)::ps,(j,v)::vs,cs,W0,arr,hp,h,e=>by
  obtain⟨⟨ue,hx⟩,hp⟩:=hp;simp only at ue hx;subst ue;simp only[Zf]at e;split at e
  case h_2=>cases e
  rename_i off u hf;split at e
  case h_2=>cases e
  rename_i ti N8;split at e
  case isFalse=>cases e
  rename_i hc;obtain⟨c1,c2,c3⟩:=hc;simp only[AIm]at e;obtain⟨cs1,e1,e2⟩:=e;have aO:x.cells≠[]:=by intro h0;rw[h0]at c1;simp at c1;omega
  obtain⟨x1,x2⟩:=gx hx c3 aO;rcases TS h x1 e1 with⟨s1,s2⟩|⟨s1,_⟩
  ·have Mm:v.cells.size=ti.size:=by
    have:=x1.len;rw[←c1,this];simp
   have hlen:=h.len;obtain⟨KQ,f1,f2⟩:=Wh hp s1 e2;refine⟨KQ,?_,f2⟩;have AHe:(fun i=>(fs[i]?).bind fun q=>((P.info? q.2).map fun i=>(q.1,i.size))) i=some (off,ti.size):=by
    have:=D4.size hT N8;cases hq:P.info? u with
    |none=>simp[hq]at this
    |some iu=>simp[hq]at this;simp[hf,hq,this]
   rw[jw (i:=i) (off:=off) (size:=ti.size) AHe Mm (by simp at hlen;omega)];exact f1
  ·exact absurd s1 aO
 |[],_::_,_,_,_,hp,_,_=>hp.elim
 |_::_,[],_,_,_,hp,_,_=>hp.elim
theorem pL(h:Rel E σ a w){t:TypeId}{ps:Array (Nat×Operand)}(ho:o.op= .build t ps){s b:Nat}{fs:List ADF}{rw:Option Ty}(N8:T.get t=some ⟨s,b,.st fs,rw⟩){r:Ty}(hr:T.aI t=some r)
  {cs:List AV} (hb:Zf T fs (WL r) (ps.toList.map fun q=>(q.1,σ.ev q.2))=some cs) (e:k (.agg cs) σ=some y):I5 P o E σ a w k y:=by
 obtain⟨i,z,h1,h2,h3,_⟩:=row_zero hT hr;obtain⟨fields,hu,hfs,Mm⟩:=AAP hT N8;obtain⟨KQ,f1,f2⟩:=Wh hT (iJ h ps) (arr:=z.cells) (by rw[h3];exact UH r) hb;refine I5.same h (v:= .agg KQ) (x:= .agg cs) ?_ ⟨KQ,rfl,f2⟩ e
 have hb:P.built t (ps.map fun(i,x)=>(i,a.eval x)).toList=some KQ:=by
  unfold Program.built;simp only[h1,hu,h2];have hm:fields.toList.mapM (fun f=>(P.info? f.type).map fun i=>(f.offset,i.size))=some (fields.toList.map fun f=>(f.offset,((P.info? f.type).map (·.size)).getD 0)):=by
   refine iR fun f hf=> ?_
   obtain⟨i',D6,_⟩:=Mm f hf;simp[D6]
  simp only[hm];rw[←f1];congr 1;funext n;subst hfs;simp only[List.getElem?_toArray,ALC];cases hn:fields.toList[n]? with
  |none=>simp
  |some f=>
   obtain⟨i',D6,_⟩:=Mm f (AKh hn);simp[D6]
 have:=run_build (P:=P) w t (ps.map fun(i,x)=>(i,a.eval x)) KQ hb;simp only[execOp,ho,Sem.run_bind,this,Result.andThen_ok,Sem.run_pure]
end
end Go.Fw
end
section
namespace Go.Fw
theorem wrap_small{n:Int}(h0:0≤n)(h1:n≤(Dd:Int)):IntKind.i64.wrap n=n:=by
 simp only[Dd]at h1;unfold IntKind.wrap;simp only[IntKind.bits,IntKind.signed];have e:n%(2^64:Int)=n:=Int.emod_eq_of_lt h0 (by omega);simp only[e];rw[AIU (by simp;omega)]
theorem Dt{m:Nat}{zl:List Value}:((List.replicate m zl).flatten).length=m*zl.length:=by
 induction m with
 |zero=>simp
 |succ m ih=>simp only[AN1,ALO,AKE,ih,AOG];omega
theorem KF{zl:List Value}:∀{m i:Nat},i<m*zl.length→((List.replicate m zl).flatten)[i]? =zl[i%zl.length]?
 |0,i,h=>by simp at h
 |m+1,i,h=>by
  simp only[AN1,ALO];by_cases hi:i<zl.length
  ·rw[AJI hi,AOL hi]
  ·have D6:zl.length≤i:=by omega
   rw[AKi D6,KF (by rw[AOG]at h;omega),←Nat.mod_eq_sub_mod D6]
theorem WY{zero:Array Value}{zl:List Value}(hz:zero.toList=zl)(m:Nat)(h0:zl≠[]):((Array.range (m*zl.length)).map (fun i=>zero[i%zero.size]!)).toList=(List.replicate m zl).flatten:=by
 have hs:zero.size=zl.length:=by rw[←hz];simp
 have ADf:0<zl.length:=AOP.2 h0;apply ANv;intro i;by_cases hi:i<m*zl.length
 ·rw[KF hi]
  have AJ9:i%zl.length<zl.length:=Nat.mod_lt _ ADf;simp only[Array.toList_map,Array.toList_range,ALC,List.getElem?_range hi,Option.map_some,hs];rw[AIH AJ9];congr 1;subst hz;have V3:i%zero.size<zero.size:=by rw[hs];exact AJ9
  simp[V3,←hs]
 ·have h1:((Array.range (m*zl.length)).map (fun i=>zero[i%zero.size]!)).toList.length≤i:=by simp;omega
  rw[AMc h1,AMc (by rw[Dt];omega)]
section
variable{Y:Type} {P:Program} {T:Hq} (hT:D4 P T) {o:Oper} {E:Env} {σ:St} {a:Act} {w:World} {k:K Y} {y:Y}
include hT
theorem YN{e:Nat}{ti:TI}{r:Ty}(he:T.get e=some ti)(hr:ti.row=some r):∃i z,P.info? e=some i∧i.size=ti.size∧i.bytes=ti.bytes∧i.zero=some z∧z.cells.toList=EX r∧r.ks=true:=by
 obtain⟨i,h1,h2,h3,h4⟩:=(hT e ti he).info;obtain⟨hg,z,h5,h6⟩:=h4 r hr;exact⟨i,z,h1,h2,h3,h5,h6,hg⟩
theorem r9(h:Rel E σ a w){t:TypeId}{l c:Operand}(ho:o.op= .makeSlice t l c)(e:j5 T t σ (σ.ev l) (σ.ev c) k=some y):I5 P o E σ a w k y:=by
 unfold j5 at e;split at e
 case h_2=>cases e
 rename_i el n m hd hl hc;split at e
 case h_2=>cases e
 rename_i r hr;split at e
 case isFalse=>cases e
 rename_i V2;split at e
 case isFalse=>cases e
 rename_i hb;obtain⟨b0,b1,b2⟩:=hb;obtain⟨el',ti,hu,N8,hs,hby,hrow⟩:=Lk hT V2;obtain⟨i,z,i1,i2,i3,i4,i5,hg⟩:=YN hT N8 hrow;obtain⟨κ1,e1⟩:=Gc hl (h.ev l);obtain⟨κ2,e2⟩:=Gc hc (h.ev c);have w1:=wrap_small b0 (by omega);have w2:=wrap_small (n:=m) (by omega) b2
 let arr:Array Value:=(Array.range (m.toNat*r.n)).map (fun j=>(if m.toNat*r.n=0 then #[]else z.cells)[j%(if m.toNat*r.n=0 then(#[]:Array Value)else z.cells).size]!)
 have Zm:arr.toList=(List.replicate n.toNat (EX r)).flatten++(List.replicate (m.toNat-n.toNat) (EX r)).flatten:=by
  have hz:=Hk r;have split:(List.replicate n.toNat (EX r)).flatten++(List.replicate (m.toNat-n.toNat) (EX r)).flatten=(List.replicate m.toNat (EX r)).flatten:=by
   rw[←AL8,List.replicate_append_replicate];congr 2;omega
  rw[split];by_cases h0:m.toNat*r.n=0
  ·have:arr.toList=[]:=by simp[arr,h0]
   rw[this]
   symm
   rw[←ANQ,Dt,hz,h0]
  ·have aO:EX r≠[]:=by
    intro he;rw[he]at hz;simp at hz;rw[←hz]at h0;simp at h0
   have:=WY i5 m.toNat aO;rw[hz]at this;simp only[arr,AIU h0];exact this
 let w':=w.alloc (.cells arr el')
 have new:w'.heap[w.heap.size]? =some (.cells arr el'):=by
  show(w.heap.push (.cells arr el'))[w.heap.size]? =_
  simp
 have ACw:arr.size=m.toNat*r.n:=by simp[arr]
 have how:Ow w' E.S (8+1) (.sl r) [.slice (some ⟨w.heap.size,0,none⟩) (List.replicate n.toNat r.z).length m.toNat] (List.replicate n.toNat r.z) (w.heap.size::(List.replicate n.toNat ([]:AB1)).flatten):=by
  refine an new Zm (by simp) (by simp;omega) (by omega) (ca _) (by simp) fun i cs y G h1 h2 h3=> ?_
  simp only[AN2]at h1 h2 h3;split at h1
  ·rename_i hi
   rw[AIF hi]at h2 h3;cases h1;cases h2;cases h3;exact au hg
  ·cases h1
 have hF:(List.replicate n.toNat ([]:AB1)).flatten=[]:=by simp
 rw[hF]at how;simp only[AMd]at how;obtain⟨r1,r2,r3⟩:=Px h (FG.refl h.bx) (w':=w') (d:=9) (by omega) how (by simp) (by simp) (by simp[w']) (fun c hc _=>Md hc) ⟨rfl,rfl,rfl,by simp[w']⟩;refine⟨_,_,_,_,_,.inl ?_,r1,r3,r2.any,rfl,e⟩;have ANc:(i.bytes:Int)*m≤2^48:=by
  have h1:(i.bytes:Int)≤512:=by omega
  have h2:(i.bytes:Int)*m≤512*m:=Int.mul_le_mul_of_nonneg_right h1 (by omega);simp only[Dd]at b2;omega
 simp only[execOp,ho,Instr.makeSlice,e1,e2,Sem.run_bind,A4 hu,Result.andThen_ok,asInt,asIntOf,Sem.run_pure,typeInfo,run_program,i1,w1,w2];rw[AIU (by simp;omega)];by_cases h0:m.toNat*r.n=0
 ·have e3:arr=(Array.range (m.toNat*r.n)).map (fun j=>(#[]:Array Value)[j%(#[]:Array Value).size]!):=by simp only[arr,AIF h0]
  simp only[Sem.run_bind,run_askRoom,Result.andThen_ok,sizeOf,typeInfo,run_program,i1,Sem.run_pure,i2,hs,h0,AMF,newRow,run_newObj];simp only[w',e3,h0];rfl
 ·have e3:arr=(Array.range (m.toNat*r.n)).map (fun j=>z.cells[j%z.cells.size]!):=by simp only[arr,AIU h0]
  simp only[Sem.run_bind,run_askRoom,Result.andThen_ok,sizeOf,typeInfo,run_program,i1,Sem.run_pure,i2,hs,h0,ALG,newRow,run_newObj,zeroValue,i4];simp only[w',e3];rfl
end
end Go.Fw
end
section
namespace Go.Fw
theorem aS{w:World}{B S:Nat→Prop}{d:Nat}:∀{r:Ty} {cs:List Value} {x:r.D},r.flat=true→Rd w B r cs x→Ow w S d r cs x []
 | .cons c r,cs,x,h,hr=>by
  simp only[Ty.flat,AIo]at h;simp only[Rd]at hr;obtain⟨v,l,rfl,h1,h2⟩:=hr;simp only[Ow];exact⟨v,l,[],[],rfl,rfl,aS h.1 h1,aS h.2 h2⟩
 | .unit,_,_,_,hr=>by simp only[Rd]at hr;simp[Ow,hr]
 | .int k,_,_,_,hr=>by simp only[Rd]at hr;simp[Ow,hr]
 | .bool,_,_,_,hr=>by simp only[Rd]at hr;simp[Ow,hr]
 | .str,_,_,_,hr=>by simp only[Rd]at hr;simp[Ow,hr]
 | .sl q,_,_,h,_=>by simp[Ty.flat]at h
theorem cP{P:Program}{w:World}{b o:Nat}{cs:List Value}(h:B7 w b o cs):(loadCells ⟨b,o,none⟩ cs.length).run P w= .ok cs.toArray w:=
 run_loadCells_list (P:=P) w ⟨b,o,none⟩ cs fun j v hv=>by rw[Addr.add_eq];exact h j v hv
theorem S8{P:Program}{w:World}(a:Addr):(loadCells a 0).run P w= .ok #[] w:=by
 simpa using run_loadCells_list (P:=P) w a [] (by simp)
theorem TN{l:List Value}:(l.map fun v=>[v]).flatten=l:=by
 induction l with
 |nil=>rfl
 |cons a l ih=>simp[ih]
theorem ng{w:World}{B:Nat→Prop}{r:Ty}{b o:Nat}{ys:List r.D}(h:∀(i:Nat) (y:r.D),ys[i]? =some y→ ∃cs,cs.length=r.n∧B7 w b (o+i*r.n) cs∧Rd w B r cs y):
  ∃css:List (List Value),css.length=ys.length∧(∀c∈css,c.length=r.n)∧B7 w b o css.flatten∧ ∀(i:Nat) cs y,css[i]? =some cs→ys[i]? =some y→Rd w B r cs y:=by
 induction ys generalizing o with
 |nil=>exact⟨[],rfl,by simp,fun _ _ h=>by simp at h,fun i cs y h=>by simp at h⟩
 |cons y ys ih=>
  obtain⟨cs,c1,c2,c3⟩:=h 0 y rfl;obtain⟨css,d1,d2,d3,d4⟩:=ih (o:=o+r.n) (fun i z hz=>by
   obtain⟨cs,e1,e2,e3⟩:=h (i+1) z (by simpa using hz);refine⟨cs,e1,?_,e3⟩;rw[AL4,AOH]at e2
   rwa [show o+r.n+i*r.n=o+(i*r.n+r.n)by omega])
  refine⟨cs::css,by simp[d1],by simpa using⟨c1,d2⟩,?_,?_⟩
  ·intro j v hj
   simp only[ALO]at hj;by_cases qq:j<cs.length
   ·rw[AJI qq]at hj
    have:=c2 j v hj;simpa using this
   ·rw[AKi (by omega)]at hj
    have:=d3 _ v hj
    rwa [show o+r.n+(j-cs.length)=o+j by omega]at this
  ·intro i W0 z h1 h2
   cases i with
   |zero=>simp at h1 h2;subst h1 h2;exact c3
   |succ i=>exact d4 i W0 z (by simpa using h1) (by simpa using h2)
theorem B7.append{w:World}{b o:Nat}{l m:List Value}(h:B7 w b o l)(k:B7 w b (o+l.length) m):B7 w b o (l++m):=by
 intro j v hj;by_cases qq:j<l.length
 ·rw[AJI qq]at hj
  exact h j v hj
 ·rw[AKi (by omega)]at hj
  have:=k _ v hj
  rwa [show o+l.length+(j-l.length)=o+j by omega]at this
section
variable{Y:Type} {P:Program} {T:Hq} (hT:D4 P T) {o:Oper} {E:Env} {σ:St} {a:Act} {w:World} {k:K Y} {y:Y}
theorem Gi(hT:D4 P T){t:Nat}{d:TD}(e:(T.get t).map TI.desc=some d):Zb P t d:=by
 simp only[AIX]at e;obtain⟨ti,h1,rfl⟩:=e;exact(hT t ti h1).vl
theorem hI{src dst e:Nat}(hs:P.underlying src=some (.slice e))(he:P.underlying e=some (.int .u8))(hd:P.underlying dst=some .string){x:Value}{l:AAZ}{B:Nat→Prop}
  (h:Rd w B (.sl (.int .u8)) [x] l):(convert src dst x).run P w= .ok (.string ⟨(l.map fun n:Int=>UInt8.ofNat n.toNat).toArray⟩) w:=by
 simp only[Rd]at h;obtain⟨a,cap,hx,hle,h⟩:=h;simp only[AK_,AL0]at hx;subst hx;rcases h with h|⟨b,o,rfl,_,h⟩
 ·obtain rfl:=AK2 h
  cases a with
  |none=>exact run_convert_bytes_nil w src e hs he _ _ dst hd
  |some a=>
   rw[run_convert_bytes_string w src dst e _ _ cap hs he hd];have:=_root_.Go.run_bytesToString (P:=P) w a 0 cap [] (by simpa using S8 (P:=P) (w:=w) a);simp only[AKu]at*;rw[this];rfl
 ·refine run_convert_bytes_arg w src e hs he b o _ cap l rfl (fun i hi=> ?_) dst hd
  obtain⟨cs,c1,c2,c3⟩:=h i _ (AIH hi);subst c3;have:=c2 0 _ rfl;simp only[Ty.n,Nat.mul_one,ANB]at this;rw[this];simp[List.getD,hi]
include hT in
theorem sQ(h:Rel E σ a w){src dst:Nat}{x:Operand}(ho:o.op= .convert src dst x)(e:kA T src dst σ (σ.ev x) k=some y):I5 P o E σ a w k y:=by
 have hx:=h.ev x;unfold kA at e;split at e
 ·rename_i κ0 κ j n hs hd hv
  have h1:=Gi hT hs;have h2:=Gi hT hd;rw[hv]at hx;have W4:=V6 (E:=E) (w:=w) (vw:=σ.bx) hx;refine I5.same h (v:= .int κ (κ.wrap n)) (x:= .c (.v (.int κ) (κ.wrap n))) ?_ (VR.int (E:=E) (vw:=σ.bx) _ _) e
  simp only[Zb]at h1 h2;simp only[execOp,ho,W4,convert,Sem.run_bind,A4 h1,A4 h2,Result.andThen_ok,Conv.intToInt,Sem.run_pure]
 ·rename_i s hs hd hv
  have h1:=Gi hT hs;have h2:=Gi hT hd;rw[hv]at hx;have W4:=Tp (E:=E) (w:=w) (vw:=σ.bx) hx;refine I5.same h (v:= .string ⟨s.toArray⟩) (x:= .c (.v .str s)) ?_ (VR.str (E:=E) (vw:=σ.bx) _) e
  simp only[Zb]at h1 h2;simp only[execOp,ho,W4,convert,Sem.run_bind,A4 h1,A4 h2,Result.andThen_ok,Sem.run_pure]
 ·rename_i el s hs hd hv
  have h1:=Gi hT hs;have h2:=Gi hT hd;rw[hv]at hx;have W4:=Tp (E:=E) (w:=w) (vw:=σ.bx) hx;split at e
  case h_2=>cases e
  rename_i V2;have h3:=Gi hT V2;split at e
  case isFalse=>cases e
  rename_i eK;simp only[Zb]at h1 h2 h3
  let S0:ByteArray:=⟨s.toArray⟩
  have Mm:S0.size=s.length:=by simp[S0,ByteArray.size]
  have jh:=Lib.run_convert_string_bytes (P:=P) w src dst el S0 h1 h2 h3;have vj:s.length≤grownCap w S0.size 0 el:=by rw[Mm];exact grownCap_ge _ _ _ _
  have new:=Lib.bytesWorld_at_new w el S0;have Zm:(Lib.bytesCells w el S0).toList=(s.map fun c=>[Value.int .u8 (c.toNat:Int)]).flatten++List.replicate (grownCap w S0.size 0 el-S0.size) (.int .u8 0):=by
   have:(s.map fun c=>[Value.int .u8 (c.toNat:Int)]).flatten=s.map fun c=>Value.int .u8 (c.toNat:Int):=by
    have:=TN (l:=s.map fun c=>Value.int .u8 (c.toNat:Int));simpa[AN6,Function.comp_def]using this
   rw[this];simp[Lib.bytesCells,S0]
  have ACw:(Lib.bytesCells w el S0).size=grownCap w S0.size 0 el:=by
   rw[←AN3,Zm];have:((s.map fun c=>[Value.int .u8 (c.toNat:Int)]).flatten).length=s.length:=by
    have:=TN (l:=s.map fun c=>Value.int .u8 (c.toNat:Int));rw[AN6]at this;have e2:(s.map fun c=>[Value.int .u8 (c.toNat:Int)])=s.map ((fun v=>[v])∘fun c=>Value.int .u8 (c.toNat:Int)):=rfl;rw[e2,this];simp
   rw[AKE,this,AMd];omega
  have how:Ow (Lib.bytesWorld w el S0) E.S (8+1) (.sl (.int .u8)) [.slice (some ⟨w.heap.size,0,none⟩) (s.map fun c=>(c.toNat:Int)).length (grownCap w S0.size 0 el)] (s.map fun c=>(c.toNat:Int))
    (w.heap.size::(List.replicate s.length ([]:AB1)).flatten):=by
   refine an (css:=s.map fun c=>[Value.int .u8 (c.toNat:Int)]) new Zm (by simp) (by simpa using vj) (by simp[Ty.n];omega) (fun i hi hh=>by simp only[mk]at hi;omega) (by simp) fun i cs y G q1 q2 q3=> ?_
   simp only[ALC,AIX]at q1 q2;obtain⟨c1,z1,rfl⟩:=q1;obtain⟨c2,z2,rfl⟩:=q2;rw[z1]at z2;cases z2;have:G=[]:=ALx (AKh q3);subst this;simp[Ow]
  have hF:(List.replicate s.length ([]:AB1)).flatten=[]:=by simp
  rw[hF]at how;obtain⟨r1,r2,r3⟩:=Px h (FG.refl h.bx) (w':=Lib.bytesWorld w el S0) (d:=9) (by omega) how (by simp) (by simp) (by simp[Lib.bytesWorld_size]) (fun c hc _=>Lib.bytesWorld_at_old w el S0 c hc)
   ⟨by simp[Lib.bytesWorld,World.freeze]<;>rfl,by simp[Lib.bytesWorld,World.freeze]<;>rfl,by simp[Lib.bytesWorld,World.freeze]<;>rfl,by rw[Lib.bytesWorld_size];omega⟩
  refine⟨_,_,_,_,_,.inl ?_,r1,r3,r2.any,rfl,e⟩;simp only[execOp,ho,W4,Sem.run_bind];have e5:=jh;simp only[S0]at e5;rw[e5];simp only[Result.andThen_ok,Sem.run_pure,AN8];rfl
 ·rename_i el z hs hd hv
  have h1:=Gi hT hs;have h2:=Gi hT hd;rw[hv]at hx;split at e
  case h_2=>cases e
  rename_i l V2 hl;have h3:=Gi hT V2;simp only[Zb]at h1 h2 h3;obtain⟨Fs,hB,hS⟩:=h.bx;have Ta:=QV (Di.refl σ.bx) hB hS.st hx hl;have hr:=hI (P:=P) h1 h3 h2 Ta;refine I5.same h (v:= .string ⟨(l.map fun n:Int=>UInt8.ofNat n.toNat).toArray⟩) (x:= .c (.v .str (l.map fun n:Int=>UInt8.ofNat n.toNat))) ?_ (VR.str (E:=E) (vw:=σ.bx) _) e
  simp only[execOp,ho,Sem.run_bind,hr,Result.andThen_ok,Sem.run_pure]
 ·cases e
end
end Go.Fw
end
section
namespace Go.Fw
theorem XA:∀(l:List Value) (o:Nat) (arr:Array Value) (p q:List Value),p.length=o→(∃m:List Value,m.length=l.length∧arr.toList=p++m++q)→(ET arr o l).toList=p++l++q
 |[],o,arr,p,q,hp,⟨m,hm,h⟩=>by
  have:m=[]:=AK2 (by simpa using hm);subst this;simpa[ET]using h
 |c::l,o,arr,p,q,hp,⟨m,hm,h⟩=>by
  cases m with
  |nil=>simp at hm
  |cons b m=>
   simp only[ET];have:=XA l (o+1) (arr.setIfInBounds o c) (p++[c]) q (by simp[hp]) ⟨m,by simpa using hm,by
    rw[Array.toList_setIfInBounds,h];subst hp;simp⟩
   rw[this];simp
theorem FG.more{E E1 E2:Env}{w:World}{vw bx aH VP:List Bx}{G F1 F2 A W:AB1}(k1:FG E w vw bx G E1 aH F1)(k2:FG E1 w vw aH (F1++G) E2 VP F2)(hp:F1.Perm (A++W)):
  let E3:Env:={ E2 with S:=fun c=>E2.S c∨c∈W,T:=fun c=>E2.T c∨c∈W }
  FG E w vw bx G E3 VP (A++F2):=by
 intro E3;have hB:=k2.boxes.perm (G':=(F2++A)++W++G) (by
  rw[AIg F2 A W,AIg F2];exact AK6 _ (AKs _ hp))
 obtain⟨hle,Sm⟩:=hB.share;exact⟨(k1.le.trans k2.le).trans hle,k2.len.trans k1.len,fun b B hb=>(k2.within b B hb).elim .inl (k1.within b B),Sm.perm (AKs _ AK7)⟩
theorem U5{w:World}{vw:List Bx}{r:Ty}(hg:r.ks=true):∀{n i:Nat} {parts:List (Nat×XV)} {vals:List (Nat×Value)} {E:Env} {bx:List Bx} {G:AB1} {d:Nat} {rows:List r.D} {NG:List Bx} {d':Nat},
  CR E w vw bx G→Di bx vw→1≤d→o_ E w vw parts vals→Uq r i n parts bx d=some (rows,NG,d')→1≤d'∧d'≤d∧rows.length=n∧ ∃(E':Env) (Fs:List AB1) (css:List (List Value)),
   FG E w vw bx G E' NG Fs.flatten∧css.length=n∧Fs.length=n∧(∀(k:Nat) cs y G,css[k]? =some cs→rows[k]? =some y→Fs[k]? =some G→Ow w E'.S (d'-1) r cs y G)∧
   ∀(pre:List (List Value)) (arr:Array Value),pre.length=i→(∀c∈pre,c.length=r.n)→arr.toList=pre.flatten++(List.replicate n (EX r)).flatten→
    ∃KQ,Instr.fill (fun i=>some (i*r.n,r.n)) arr vals=some KQ∧KQ.toList=pre.flatten++css.flatten
 |0,i,[],[],E,bx,G,d,rows,NG,d',h,hw,hd,hp,e=>by
  simp only[Uq,AIK,ALD]at e;obtain⟨rfl,rfl,rfl⟩:=e;refine⟨hd,ALE _,rfl,E,[],[],FG.refl h,rfl,rfl,by simp,fun pre arr _ _ ha=>⟨arr,rfl,by simpa using ha⟩⟩
 |n+1,i,(j,x)::l,(j',v)::m,E,bx,G,d,rows,NG,d',h,hw,hd,hp,e=>by
  obtain⟨⟨hj,hx⟩,hp⟩:=hp;simp only at hj hx;subst hj;simp only[Uq]at e;split at e
  case isFalse=>cases e
  rename_i ue;subst ue;simp only[AIm,AIX,ALD]at e;obtain⟨⟨y1,aH,d1⟩,e1,⟨y2,VP,d2⟩,e2,rfl,rfl,rfl⟩:=e;dsimp only at e2⊢;obtain⟨a1,a2,E1,F1,k1,o1⟩:=nx h hw hd hx e1;have nj:=k1.le.keep (w:=w) (vw:=vw) h.st;obtain⟨b1,b2,b3,E2,Fs,css,k2,c1,c2,c3,c4⟩:=U5 hg (G:=F1++G) k1.boxes (hw.gz k1) a1 (hp.imp fun _ _ q=>⟨q.1,L9 nj q.2⟩) e2;obtain⟨A,W,dZ,o1'⟩:=Hr (d:=d'-1) (by omega) o1;refine⟨b1,ALM b2 a2,by simp[b3],_,A::Fs,v.cells.toList::css,FG.more k1 k2 dZ,by simp[c1],by simp[c2],fun k cs y G' q1 q2 q3=> ?_,fun pre arr sP hpn ha=> ?_⟩
  ·cases k with
   |zero=>
    simp at q1 q2 q3;subst q1 q2 q3;refine DB (S:=fun b=>E1.S b∨b∈W) ?_ (fun _ _=>rfl) (fun _ _=>rfl) o1'
    intro c hc;exact hc.elim (fun h=> .inl (k2.le.S c h)) .inr
   |succ k=>
    refine DB (S:=E2.S) ?_ (fun _ _=>rfl) (fun _ _=>rfl) (c3 k cs y G' (by simpa using q1) (by simpa using q2) (by simpa using q3))
    intro c hc;exact .inl hc
  ·have hlen:v.cells.toList.length=r.n:=Sr o1
   have hpf:pre.flatten.length=i*r.n:=by
    clear ha c4
    subst sP;clear e1 e2
    induction pre with
    |nil=>simp
    |cons c pre ih=>simp[hpn c (by simp),ih (fun c hc=>hpn c (by simp[hc])),AOG];omega
   have RI:(ET arr (i*r.n) v.cells.toList).toList=pre.flatten++v.cells.toList++(List.replicate n (EX r)).flatten:=
    XA _ _ _ _ _ hpf ⟨EX r,by rw[Hk,hlen],by rw[ha];simp[AN1]⟩
   obtain⟨KQ,f1,f2⟩:=c4 (pre++[v.cells.toList]) (ET arr (i*r.n) v.cells.toList) (by simp[sP]) (by
    intro c hc;rcases AJ6.1 hc with hc|hc
    ·exact hpn c hc
    ·simp at hc;subst hc;exact hlen) (by rw[RI];simp)
   refine⟨KQ,?_,by rw[f2];simp⟩;rw[jw (i:=i) (off:=i*r.n) (size:=r.n) rfl (by simpa using hlen) ?_]
   ·exact f1
   ·have h1:arr.size=arr.toList.length:=by simp
    rw[h1,ha,AKE,hpf,Dt,Hk];simp at hlen;rw[hlen,AOG];omega
 |n+1,i,[],[],E,bx,G,d,rows,NG,d',h,hw,hd,hp,e=>by
  simp only[Uq,AIX,ALD]at e;obtain⟨⟨y2,VP,d2⟩,e2,rfl,rfl,rfl⟩:=e;obtain⟨b1,b2,b3,E2,Fs,css,k2,c1,c2,c3,c4⟩:=U5 hg (G:=G) h hw hd (parts:=[]) (vals:=[]) trivial e2;refine⟨b1,b2,by simp[b3],E2,[]::Fs,EX r::css,by simpa using k2,by simp[c1],by simp[c2],fun k cs y G' q1 q2 q3=> ?_,fun pre arr sP hpn ha=> ?_⟩
  ·cases k with
   |zero=>
    simp at q1 q2 q3;subst q1 q2 q3;exact au hg
   |succ k=>exact c3 k cs y G' (by simpa using q1) (by simpa using q2) (by simpa using q3)
  ·obtain⟨KQ,f1,f2⟩:=c4 (pre++[EX r]) arr (by simp[sP]) (by
    intro c hc;rcases AJ6.1 hc with hc|hc
    ·exact hpn c hc
    ·simp at hc;subst hc;exact Hk r) (by rw[ha];simp[AN1])
   exact⟨KQ,f1,by rw[f2];simp⟩
 |0,_,_::_,_,_,_,_,_,_,_,_,_,_,_,_,e=>by simp[Uq]at e
 |0,_,[],_::_,_,_,_,_,_,_,_,_,_,_,hp,_=>hp.elim
 |_+1,_,[],_::_,_,_,_,_,_,_,_,_,_,_,hp,_=>hp.elim
 |_+1,_,_::_,[],_,_,_,_,_,_,_,_,_,_,hp,_=>hp.elim
section
variable{Y:Type} {P:Program} {T:Hq} (hT:D4 P T) {o:Oper} {E:Env} {σ:St} {a:Act} {w:World} {k:K Y} {y:Y}
include hT
theorem eD(h:Rel E σ a w){t n:Nat}{ps:Array (Nat×Operand)}(ho:o.op= .buildSlice t n ps)(e:Nw T t n (ps.toList.map fun q=>(q.1,σ.ev q.2)) σ k=some y):I5 P o E σ a w k y:=by
 unfold Nw at e;split at e
 case h_2=>cases e
 rename_i el hd;split at e
 case h_2=>cases e
 rename_i r hr;split at e
 case isFalse=>cases e
 rename_i hc;simp only[AIo,AJJ]at hc;obtain⟨⟨V2,hn⟩,hrn⟩:=hc;simp only[AIm]at e;obtain⟨⟨rows,NG,d'⟩,e1,e⟩:=e;dsimp only at e;obtain⟨el',ti,hu,N8,hs,hby,hrow⟩:=Lk hT V2;obtain⟨i,z,i1,i2,i3,i4,i5,hg⟩:=YN hT N8 hrow;have AFl:=iJ h ps;obtain⟨b1,b2,b3,E',Fs,css,k2,c1,c2,c3,c4⟩:=U5 hg h.bx (Di.refl _) (by omega) AFl e1
 let zero:Array Value:=if n*r.n=0 then #[]else z.cells
 have hz:((Array.range (n*r.n)).map (fun j=>zero[j%zero.size]!)).toList=(List.replicate n (EX r)).flatten:=by
  by_cases h0:n*r.n=0
  ·have h1:(List.replicate n (EX r)).flatten=[]:=by
    rw[←ANQ,Dt,Hk,h0]
   rw[h1];simp[h0]
  ·have aO:EX r≠[]:=by
    intro he;have:=Hk r;rw[he]at this;simp at this;rw[←this]at h0;simp at h0
   have:=WY i5 n aO;rw[Hk]at this;simp only[zero,AIU h0];exact this
 obtain⟨KQ,f1,f2⟩:=c4 [] _ rfl (by simp) (by rw[hz];simp);simp only[AOD,ALB]at f2
 let w':=w.alloc (.cells KQ el')
 have new:w'.heap[w.heap.size]? =some (.cells KQ el'):=by
  show(w.heap.push (.cells KQ el'))[w.heap.size]? =_
  simp
 obtain⟨d,rfl⟩:∃m,d' =m+1:=⟨d'-1,by omega⟩;have hl:∀c∈css,c.length=r.n:=by
  intro c hc;obtain⟨j,hj,rfl⟩:=ALr hc;exact Sr (c3 j _ _ _ (AIH hj) (AIH (by omega)) (AIH (by omega)))
 have hfl:css.flatten.length=n*r.n:=by
  rw[←c1];clear f2 c3 c4 c1
  induction css with
  |nil=>simp
  |cons c l ih=>simp[hl c (by simp),ih (fun c hc=>hl c (by simp[hc])),AOG];omega
 have ACw:KQ.size=n*r.n:=by rw[←AN3,f2,hfl]
 obtain⟨Fs0,hB1,Sm⟩:=k2.boxes;simp only[AKb]at Sm;have how:Ow w' E'.S (d+1) (.sl r) [.slice (some ⟨w.heap.size,0,none⟩) rows.length n] rows (w.heap.size::Fs.flatten):=by
  refine an (css:=css) (ex:=[]) new (by simpa using f2) (by omega) (by omega) (by omega) (ca _) (by omega) fun k cs y G q1 q2 q3=> ?_
  have XY:∀c∈G,c∈Fs.flatten:=fun c hc=>AK9.2 ⟨G,AKh q3,hc⟩
  exact DB (fun _ h=>h) (fun c hc=>Md (Sm.ZB c (Sm.st c hc))) (fun c hc=>Md (Sm.lt c (by simp only[AJ6];exact .inr (XY c hc)))) (by simpa using c3 k cs y G q1 q2 q3)
 rw[b3]at how;obtain⟨r1,r2,r3⟩:=Px h k2 (w':=w') (d:=d+1) (by omega) how (by
   intro c hc;rcases AKv.1 hc with rfl|hc
   ·exact .inr (ALE _)
   ·exact .inl hc) (by
   refine ANm.2 ⟨fun hc=> ?_,(AJq.1 Sm.nodup).2.1⟩;have:=Sm.lt w.heap.size (by simp only[AJ6];exact .inr hc);omega) (by
   intro c hc;rcases AKv.1 hc with rfl|hc
   ·simp[w']
   ·have:=Sm.lt c (by simp only[AJ6];exact .inr hc)
    simp[w'];omega) (fun c hc _=>Md hc) ⟨rfl,rfl,rfl,by simp[w']⟩
 refine⟨_,_,_,_,_,.inl ?_,r1,r3,r2.any,rfl,e⟩;have eK: ¬(n*r.n>2^24):=by
  have:n*r.n≤1024*1024:=Nat.mul_le_mul hn hrn;omega
 simp only[execOp,ho,Instr.buildSlice,Sem.run_bind,A4 hu,Result.andThen_ok,sizeOf,typeInfo,run_program,i1,Sem.run_pure,i2,hs,eK,ALG];by_cases h0:n*r.n=0
 ·have hz0:zero= #[]:=by simp only[zero,AIF h0]
  rw[hz0]at f1;simp only[h0,AMF,Sem.run_bind,Sem.run_pure,Result.andThen_ok];rw[h0]at f1;simp only[f1,newRow,Sem.run_bind,run_newObj,Result.andThen_ok,Sem.run_pure];rfl
 ·have hz0:zero=z.cells:=by simp only[zero,AIU h0]
  rw[hz0]at f1;simp only[h0,ALG,Sem.run_bind,zeroValue,typeInfo,run_program,Result.andThen_ok,i1,Sem.run_pure,i4];simp only[f1,newRow,Sem.run_bind,run_newObj,Result.andThen_ok,Sem.run_pure];rfl
end
end Go.Fw
end
section
namespace Go.Fw
theorem WM(w:World)(b o:Nat)(v:Value):(w.setCell ⟨b,o,none⟩ v).heap=w.heap.modify b fun
 | .cells c elem frozen=> .cells (c.setIfInBounds o v) elem frozen
 |o=>o:=rfl
theorem IM:∀(vs:List Value) (o:Nat) (w:World) (b:Nat) (arr:Array Value) (ty:TypeId) (fr:ADF),w.heap[b]? =some (.cells arr ty fr)→
  (w.setCells b o vs).heap[b]? =some (.cells (ET arr o vs) ty fr)
 |[],_,_,_,_,_,_,h=>h
 |v::l,o,w,b,arr,ty,fr,h=>by
  simp only[World.setCells,ET];refine IM l (o+1) _ b _ ty fr ?_
  rw[WM,Array.getElem?_modify,AIF rfl,h];rfl
theorem FZ:∀(vs:List Value) (o:Nat) (w:World) (b:Nat),(w.setCells b o vs).heap.size=w.heap.size
 |[],_,_,_=>rfl
 |v::l,o,w,b=>by
  simp only[World.setCells];rw[FZ l,WM,Array.size_modify]
theorem Iz:∀(vs:List Value) (o:Nat) (w:World) (b c:Nat),c≠b→(w.setCells b o vs).heap[c]? =w.heap[c]?
 |[],_,_,_,_,_=>rfl
 |v::l,o,w,b,c,h=>by
  simp only[World.setCells];rw[Iz l _ _ _ _ h,WM,Array.getElem?_modify,AIU (fun e=>h e.symm)]
theorem Ca:∀(vs:List Value) (o:Nat) (w:World) (b:Nat),Grown w (w.setCells b o vs)
 |[],_,_,_=>⟨rfl,rfl,rfl,ALE _⟩
 |v::l,o,w,b=>by
  have:=Ca l (o+1) (w.setCell ⟨b,o,none⟩ v) b;refine⟨this.os,this.tape,this.output,?_⟩;rw[FZ];exact ALE _
theorem SV{arr:Array Value}:∀{l:List Value} {o j:Nat},o+l.length≤arr.size→(ET arr o l)[j]? =if o≤j∧j<o+l.length then l[j-o]? else arr[j]?:=by
 intro l
 induction l generalizing arr with
 |nil=>intro o j _;rw[AIU (fun hh=>by simp only[AKu]at hh;omega)];rfl
 |cons c l ih=>
  intro o j h;simp only[AJ0]at h;simp only[ET];rw[ih (by simp;omega)];by_cases h1:o+1≤j∧j<o+1+l.length
  ·rw[AIF h1,AIF (by simp;omega)]
   rw[show j-o=(j-(o+1))+1 by omega];simp
  ·rw[AIU h1]
   by_cases h2:o=j
   ·subst h2
    rw[AIF (by simp),Array.getElem?_setIfInBounds_self_of_lt (by omega),AOF];rfl
   ·rw[AIU (fun hh=>by simp only[AJ0]at hh;omega),Array.getElem?_setIfInBounds_ne h2]
theorem J9{w:World}{b o:Nat}{arr:Array Value}{ty:TypeId}{fr:ADF}(h:w.heap[b]? =some (.cells arr ty fr)):w.cell? ⟨b,o,none⟩=arr[o]?:=by
 simp[World.cell?,h]
theorem Q7{w:World}{b o:Nat}{vs:List Value}{arr:Array Value}{ty:TypeId}{fr:ADF}(h:w.heap[b]? =some (.cells arr ty fr))(hs:o+vs.length≤arr.size):B7 (w.setCells b o vs) b o vs:=by
 intro j v hj;have hl:=(AIE.1 hj).1;rw[J9 (IM vs o w b arr ty fr h),SV hs,AIF (by omega),show o+j-o=j by omega,hj]
theorem ZF{w:World}{b b' o o':Nat}{vs cs:List Value}{arr:Array Value}{ty:TypeId}{fr:ADF}(hc:B7 w b' o' cs)(h:w.heap[b]? =some (.cells arr ty fr))(hs:o+vs.length≤arr.size)
  (ha:b'≠b∨o'+cs.length≤o∨o+vs.length≤o'):B7 (w.setCells b o vs) b' o' cs:=by
 intro j v hj;have hl:=(AIE.1 hj).1;by_cases hb:b' =b
 ·subst hb
  have:=hc j v hj;rw[J9 h]at this;rw[J9 (IM vs o w b' arr ty fr h),SV hs,AIU (by omega),this]
 ·rw[World.cell?_of_block (a:=⟨b',o'+j,none⟩) (Iz vs o w b b' hb)]
  exact hc j v hj
theorem bO{w:World}{b o n k:Nat}{arr:Array Value}{ty:TypeId}{fr:ADF}(h:w.heap[b]? =some (.cells arr ty fr))(hs:o+n≤arr.size)(hu:oh fr (arr.size+k)):w.there b o n:=by
 intro j hj;refine⟨?_,?_⟩
 ·rw[J9 h]
  simp;omega
 ·have:=hu (o+j) (by omega)
  obtain⟨lo,hi⟩:=fr;simp only[World.frozen?,h];simp at this⊢;omega
theorem gm{w:World}{S:Nat→Prop}:∀{r:Ty} {d:Nat} {cs:List Value} {y:r.D} {F:AB1},Ow w S d r cs y F→ ∀v∈cs,v.oneCell' =true
 | .int _,_,_,_,_,h,v,hv=>by simp only[Ow]at h;rw[h.1]at hv;simp at hv;subst hv;rfl
 | .bool,_,_,_,_,h,v,hv=>by simp only[Ow]at h;rw[h.1]at hv;simp at hv;subst hv;rfl
 | .str,_,_,_,_,h,v,hv=>by simp only[Ow]at h;rw[h.1]at hv;simp at hv;subst hv;rfl
 | .unit,_,_,_,_,h,v,hv=>by simp only[Ow]at h;rw[h.1]at hv;simp at hv
 | .sl _,0,_,_,_,h,v,hv=>by
  simp only[Ow,Rd]at h;obtain⟨⟨_,_,rfl,_⟩,_⟩:=h;simp at hv;subst hv;rfl
 | .sl _,_+1,_,_,_,h,v,hv=>by
  simp only[Ow]at h;obtain⟨_,_,rfl,_⟩:=h;simp at hv;subst hv;rfl
 | .cons _ _,_,_,_,_,h,v,hv=>by
  simp only[Ow]at h;obtain⟨u,l,F1,F2,rfl,_,h1,h2⟩:=h;rcases AKv.1 hv with rfl|hv
  ·exact gm h1 _ (by simp)
  ·exact gm h2 _ hv
section
variable{P:Program} {w:World}
structure je (P:Program) (w:World) (size n:Nat) (x:Value) (news:List Value):Prop where
 len:∀w',(Builtin.lenOf x).run P w' = .ok n w'
 cells:∀w',w'.heap=w.heap→(Builtin.firstCells size n x).run P w' = .ok news.toArray w'
theorem ja{ts:Array TypeId}{t u ty e:TypeId}(mW:ts[0]? =some t)(mb:ts[1]? =some u){i:TypeInfo}{size:Nat}(ht:P.underlying t=some (.slice e))(hu:(∃e,P.underlying u=some (.slice e))∨P.underlying u=some .string)(hi:P.info? e=some i)(Mm:i.size=size)
  {b o VA iE n:Nat} {x:Value} {news:List Value} (hn:je P w size n x news) (jr:VA+n≤iE) (hth:w.there b (o+VA*size) news.length) (h1:∀v∈news,v.oneCell' =true):
  (Builtin.append_ ts ty #[.slice (some ⟨b,o,none⟩) VA iE,x]).run P w= .ok (.slice (some ⟨b,o,none⟩) (VA+n) iE) (w.setCells b (o+VA*size) news):=by
 subst Mm;have oP:=run_storeCells_cells (P:=P) b (o+VA*i.size) news 0 w (fun j hj=>by simpa using(hth j hj).1) (fun j hj=>by simpa using(hth j hj).2) h1;simp only[ANB]at oP;have hl:=hn.len w;have hf:=hn.cells w rfl;rcases hu with⟨e',hu⟩|hu
 ·simp[Builtin.append_,mW,mb,run_underlying ht,run_underlying hu,sizeOf,typeInfo,hi,hl,jr,hf,Addr.add_eq,oP]
 ·simp[Builtin.append_,mW,mb,run_underlying ht,run_underlying hu,sizeOf,typeInfo,hi,hl,jr,hf,Addr.add_eq,oP]
theorem eQ{ts:Array TypeId}{t u ty e:TypeId}(mW:ts[0]? =some t)(mb:ts[1]? =some u){i:TypeInfo}{size:Nat}(ht:P.underlying t=some (.slice e))(hu:(∃e,P.underlying u=some (.slice e))∨P.underlying u=some .string)(hi:P.info? e=some i)(Mm:i.size=size)
  {a:Option Addr} {x:Value} (hn:je P w size 0 x []):
  (Builtin.append_ ts ty #[.slice a 0 0,x]).run P w= .ok (.slice a 0 0) w:=by
 subst Mm;have hl:=hn.len w;have hf:=hn.cells w rfl;cases a with
 |none=>
  rcases hu with⟨e',hu⟩|hu
  ·simp[Builtin.append_,mW,mb,run_underlying ht,run_underlying hu,sizeOf,typeInfo,hi,hl,hf]
  ·simp[Builtin.append_,mW,mb,run_underlying ht,run_underlying hu,sizeOf,typeInfo,hi,hl,hf]
 |some a=>
  have oP:(storeCells (a.add (0*i.size)) [] 0).run P w= .ok () w:=rfl;rcases hu with⟨e',hu⟩|hu
  ·simp[Builtin.append_,mW,mb,run_underlying ht,run_underlying hu,sizeOf,typeInfo,hi,hl,hf,storeCells]
  ·simp[Builtin.append_,mW,mb,run_underlying ht,run_underlying hu,sizeOf,typeInfo,hi,hl,hf,storeCells]
theorem eo{ts:Array TypeId}{t u ty e:TypeId}(mW:ts[0]? =some t)(mb:ts[1]? =some u){i:TypeInfo}{z:Value}{size:Nat}(ht:P.underlying t=some (.slice e))(hu:(∃e,P.underlying u=some (.slice e))∨P.underlying u=some .string)(hi:P.info? e=some i)(hz:i.zero=some z)(Mm:i.size=size)
  {a:Option Addr} {VA iE n:Nat} {x:Value} {AKX news:List Value} (ho:∀w',w'.heap=w.heap→(Builtin.firstCells size VA (.slice a VA iE)).run P w' = .ok AKX.toArray w')
  (hn:je P w size n x news) (AKy:iE<VA+n) (h63:VA+n≤Dd) (hby:i.bytes≤512):
  (Builtin.append_ ts ty #[.slice a VA iE,x]).run P w= .ok (.slice (some ⟨w.heap.size,0,none⟩) (VA+n) (grownCap w (VA+n) iE e))
   (w.drew.alloc (.cells (AKX.toArray++news.toArray++Builtin.zeroCells z.cells (grownCap w (VA+n) iE e-(VA+n))) e)):=by
 subst Mm;have hl:=hn.len w;have hf:=hn.cells w.drew rfl;have hfo:=ho w.drew rfl;have hno: ¬(VA+n≤iE):=by omega
 have hb:(VA+n)*i.bytes≤140737488355328:=by
  have:(VA+n)*i.bytes≤Dd*512:=Nat.mul_le_mul h63 hby;simp only[Dd]at this;omega
 have h48:=growslice_fits AKy hb;have AJe: ¬(281474976710656<Builtin.nextslicecap (VA+n) iE*i.bytes):=by omega
 have AJA: ¬(9223372036854775807<((VA:Int)+(n:Int))):=by simp only[Dd]at h63;omega
 rcases hu with⟨e',hu⟩|hu
 ·simp[Builtin.append_,mW,mb,run_underlying ht,run_underlying hu,sizeOf,typeInfo,zeroValue,hi,hz,hl,hno,AJA,AJe,Question.forced,hf,hfo,newRow,grownCap]
  congr 2
  apply Array.ext';simp[AIg]
 ·simp[Builtin.append_,mW,mb,run_underlying ht,run_underlying hu,sizeOf,typeInfo,zeroValue,hi,hz,hl,hno,AJA,AJe,Question.forced,hf,hfo,newRow,grownCap]
  congr 2
  apply Array.ext';simp[AIg]
end
end Go.Fw
end
section
namespace Go.Fw
def ED(w:World)(S:Nat→Prop)(d:Nat)(r:Ty)(css:List (List Value))(rows:List r.D)(Fs:List AB1):Prop:=
 css.length=rows.length∧Fs.length=rows.length∧(∀c∈css,c.length=r.n)∧ ∀(i:Nat) cs y G,css[i]? =some cs→rows[i]? =some y→Fs[i]? =some G→Ow w S d r cs y G
theorem ED.mono{w w':World}{S S':Nat→Prop}{d:Nat}{r:Ty}{css:List (List Value)}{rows:List r.D}{Fs:List AB1}(h:ED w S d r css rows Fs)(hS:∀c,S c→S' c)(hw:∀c,S c→w'.heap[c]? =w.heap[c]?)
  (hF:∀c∈Fs.flatten,w'.heap[c]? =w.heap[c]?):ED w' S' d r css rows Fs:=
 ⟨h.1,h.2.1,h.2.2.1,fun i cs y G a b c=>DB hS hw (fun x hx=>hF x (AK9.2 ⟨G,AKh c,hx⟩)) (h.2.2.2 i cs y G a b c)⟩
theorem ED.append{w:World}{S:Nat→Prop}{d:Nat}{r:Ty}{css AKq:List (List Value)}{rows CC:List r.D}{Fs Fs':List AB1}(h:ED w S d r css rows Fs)(k:ED w S d r AKq CC Fs'):
  ED w S d r (css++AKq) (rows++CC) (Fs++Fs'):=by
 refine⟨by simp[h.1,k.1],by simp[h.2.1,k.2.1],fun c hc=>(AJ6.1 hc).elim (h.2.2.1 c) (k.2.2.1 c),fun i cs y G a b c=> ?_⟩;by_cases hi:i<rows.length
 ·rw[AJI (by rw[h.1];exact hi)]at a
  rw[AJI hi]at b;rw[AJI (by rw[h.2.1];exact hi)]at c;exact h.2.2.2 i cs y G a b c
 ·rw[AKi (by rw[h.1];omega)]at a
  rw[AKi (by omega)]at b;rw[AKi (by rw[h.2.1];omega)]at c;rw[h.1]at a;rw[h.2.1]at c;exact k.2.2.2 _ cs y G a b c
theorem ED.weaken{w:World}{S:Nat→Prop}{d d':Nat}{r:Ty}{css:List (List Value)}{rows:List r.D}{Fs:List AB1}(h:ED w S d r css rows Fs)(hd:d'≤d):
  ∃(Gs:List AB1) (W:AB1),Fs.flatten.Perm (Gs.flatten++W)∧ED w (fun c=>S c∨c∈W) d' r css rows Gs:=by
 obtain⟨Gs,Ws,h1,h2,h3,h4⟩:=iN (R:=fun i G F W=> ∀cs y,css[i]? =some cs→rows[i]? =some y→Ow w (fun c=>S c∨c∈W) d' r cs y F) Fs 0 (fun i G hG=>by
  rw[AL1];have hi:=(AIE.1 hG).1;have h1:=h.1;have h2:=h.2.1;obtain⟨F,W,hp,ho⟩:=Hr hd (h.2.2.2 i _ _ G (AIH (by omega)) (AIH (by omega)) hG);refine⟨F,W,hp,fun cs y a b=> ?_⟩;rw[AIH (by omega)]at a b;cases a;cases b;exact ho)
 refine⟨Gs,Ws.flatten,h3,h.1,h1.trans h.2.1,h.2.2.1,fun i cs y G a b c=> ?_⟩;have hi:=(AIE.1 c).1;have hw:Ws[i]? =some (Ws[i]'(by omega)):=AIH _;have hf:Fs[i]? =some (Fs[i]'(by omega)):=AIH _;have:=h4 i _ _ _ hf c hw cs y (by rw[AL1];exact a) (by rw[AL1];exact b);exact DB (fun x hx=>hx.imp id fun hx=>AK9.2 ⟨_,AKh hw,hx⟩) (fun _ _=>rfl) (fun _ _=>rfl) this
theorem Ua{n:Nat}:∀{css:List (List Value)},(∀c∈css,c.length=n)→css.flatten.length=css.length*n
 |[],_=>by simp
 |c::l,h=>by simp[h c (by simp),Ua (css:=l) (fun c hc=>h c (by simp[hc])),AOG];omega
theorem ED.one{w:World}{S:Nat→Prop}{d:Nat}{r:Ty}{css:List (List Value)}{rows:List r.D}{Fs:List AB1}(h:ED w S d r css rows Fs):∀v∈css.flatten,v.oneCell' =true:=by
 intro v hv;obtain⟨c,hc,hv⟩:=AK9.1 hv;obtain⟨i,hi,rfl⟩:=ALr hc;have h1:=h.1;have h2:=h.2.1;exact gm (h.2.2.2 i _ _ _ (AIH hi) (AIH (by omega)) (AIH (by omega))) v hv
theorem ED.flat{w:World}{B S:Nat→Prop}{d:Nat}{r:Ty}(hf:r.flat=true){css:List (List Value)}{rows:List r.D}(h1:css.length=rows.length)(h2:∀c∈css,c.length=r.n)
  (h3:∀(i:Nat) cs y,css[i]? =some cs→rows[i]? =some y→Rd w B r cs y):ED w S d r css rows (List.replicate rows.length []):=by
 refine⟨h1,by simp,h2,fun i cs y G a b c=> ?_⟩;have:G=[]:=ALx (AKh c);subst this;exact aS hf (h3 i cs y a b)
theorem B7.heap{w w':World}{b o:Nat}{cs:List Value}(h:B7 w b o cs)(e:w'.heap=w.heap):B7 w' b o cs:=h.of_block (by rw[e])
theorem Ps{P:Program}{w:World}{a:Option Addr}{n cap size:Nat}{css:List (List Value)}(hl:css.length=n)(hc:∀c∈css,c.length=size)
  (h:n=0∨ ∃b o,a=some ⟨b,o,none⟩∧B7 w b o css.flatten):je P w size n (.slice a n cap) css.flatten:=by
 refine⟨fun w' =>rfl,fun w' e=> ?_⟩;have hlen:css.flatten.length=n*size:=by rw[Ua hc,hl]
 rcases h with rfl|⟨b,o,rfl,h⟩
 ·have:css=[]:=AK2 hl
  subst this;cases a with
  |none=>rfl
  |some a=>
   simp only[Builtin.firstCells,Nat.zero_mul,AOD];exact S8 a
 ·simp only[Builtin.firstCells]
  rw[←hlen];exact cP (h.heap e)
theorem uz{P:Program}{w:World}{s:ACu}:je P w 1 s.length (.string ⟨s.toArray⟩) (s.map fun c=>[Value.int .u8 (c.toNat:Int)]).flatten:=by
 refine⟨fun w' =>rfl,fun w' _=> ?_⟩;have Mm:(⟨s.toArray⟩:ByteArray).size=s.length:=by simp[ByteArray.size]
 have e1:(⟨s.toArray⟩:ByteArray).extract 0 s.length=⟨s.toArray⟩:=by
  rw[←Mm];apply ByteArray.ext;simp
 simp only[Builtin.firstCells,e1,Sem.run_pure];have:(s.map fun c=>[Value.int .u8 (c.toNat:Int)]).flatten=s.map fun c=>Value.int .u8 (c.toNat:Int):=by
  have:=TN (l:=s.map fun c=>Value.int .u8 (c.toNat:Int));simpa[AN6,Function.comp_def]using this
 rw[this];simp
theorem qU{w:World}{S:Nat→Prop}{d:Nat}{r:Ty}{v:Value}{rows:List r.D}{F:AB1}(h:Ow w S (d+1) (.sl r) [v] rows F):
  ∃a cap css Fs R,v= .slice a rows.length cap∧rows.length≤cap∧ED w S d r css rows Fs∧F.Perm (Fs.flatten++R)∧
   ((cap=0∧F=[])∨ ∃b o arr ty fr,a=some ⟨b,o,none⟩∧w.heap[b]? =some (.cells arr ty fr)∧o+cap*r.n≤arr.size∧oh fr (arr.size+mk r)∧F=b::Fs.flatten∧B7 w b o css.flatten):=by
 simp only[Ow]at h;obtain⟨a,cap,e,hle,h⟩:=h;simp only[AK_,AL0]at e;subst e;rcases h with⟨h,rfl⟩|⟨b,o,arr,ty,fr,Fs,rfl,hb,Mm,hu,rfl,hFl,hr⟩
 ·have:rows=[]:=AK2 (by omega)
  subst this;exact⟨a,cap,[],[],[],rfl,hle,⟨rfl,rfl,by simp,fun i cs y G h=>by simp at h⟩,by simp,.inl ⟨h,rfl⟩⟩
 ·
  have key:∀(n o:Nat) (ys:List r.D) (Fs:List AB1),ys.length=n→Fs.length=n→(∀(i:Nat) (y:r.D) (G:AB1),ys[i]? =some y→Fs[i]? =some G→ ∃cs,cs.length=r.n∧B7 w b (o+i*r.n) cs∧Ow w S d r cs y G)→
    ∃css,ED w S d r css ys Fs∧B7 w b o css.flatten:=by
   intro n
   induction n with
   |zero=>
    intro o ys Fs h1 h2 _;obtain rfl:=AK2 h1;obtain rfl:=AK2 h2;exact⟨[],⟨rfl,rfl,by simp,fun i cs y G h=>by simp at h⟩,fun _ _ h=>by simp at h⟩
   |succ n ih=>
    intro o ys Fs h1 h2 hh;obtain⟨y,ys,rfl⟩:=AOC h1;obtain⟨G,Fs,rfl⟩:=AOC h2;obtain⟨cs,c1,c2,c3⟩:=hh 0 y G rfl rfl;obtain⟨css,d1,d2⟩:=ih (o+r.n) ys Fs (by simpa using h1) (by simpa using h2) (fun i z G hz hG=>by
     obtain⟨cs,e1,e2,e3⟩:=hh (i+1) z G (by simpa using hz) (by simpa using hG);refine⟨cs,e1,?_,e3⟩;rw[AL4,AOH]at e2
     rwa [show o+r.n+i*r.n=o+(i*r.n+r.n)by omega])
    refine⟨cs::css,⟨by simp[d1.1],by simp[d1.2.1],fun c hc=> ?_,fun i W0 y' G' a b c=> ?_⟩,?_⟩
    ·rcases AKv.1 hc with rfl|hc
     ·exact c1
     ·exact d1.2.2.1 c hc
    ·cases i with
     |zero=>simp at a b c;subst a b c;exact c3
     |succ i=>exact d1.2.2.2 i W0 y' G' (by simpa using a) (by simpa using b) (by simpa using c)
    ·rw[ALO]
     refine B7.append (by simpa using c2) ?_
     rw[c1];exact d2
  obtain⟨css,k1,k2⟩:=key rows.length o rows Fs rfl hFl hr;refine⟨_,cap,css,Fs,[b],rfl,hle,k1,?_,.inr ⟨b,o,arr,ty,fr,rfl,hb,Mm,hu,rfl,k2⟩⟩;exact(AK7 (l₁:=[b]) (l₂:=Fs.flatten))
theorem cE{w:World}{S:Nat→Prop}:∀{r:Ty} {cs:List Value} {x:r.D},Rd w S r cs x→Ow w S 0 r cs x []
 | .cons c r,cs,x,hr=>by
  simp only[Rd]at hr;obtain⟨v,l,rfl,h1,h2⟩:=hr;simp only[Ow];exact⟨v,l,[],[],rfl,rfl,cE h1,cE h2⟩
 | .unit,_,_,hr=>by simp only[Rd]at hr;simp[Ow,hr]
 | .int k,_,_,hr=>by simp only[Rd]at hr;simp[Ow,hr]
 | .bool,_,_,hr=>by simp only[Rd]at hr;simp[Ow,hr]
 | .str,_,_,hr=>by simp only[Rd]at hr;simp[Ow,hr]
 | .sl q,_,_,hr=>by simp only[Ow];exact⟨hr,trivial⟩
theorem ZC{P:Program}{E:Env}{w:World}{vw bx:List Bx}{G:AB1}(h:CR E w vw bx G)(hw:Di bx vw){x:AV}{v:Value}(hv:VR E w vw x v){r:Ty}{rows:List r.D}{NG:List Bx}{d:Nat}
  (e:fC bx x=some ⟨r,rows,NG,d⟩):1≤d∧ ∃E' F css Fs R,FG E w vw bx G E' NG F∧F.Perm (List.flatten Fs++R)∧ED w E'.S (d-1) r css rows Fs∧je P w r.n rows.length v css.flatten:=by
 have plain:∀{B:Nat→Prop} {ys:List r.D},r.flat=true→Rd w B (.sl r) [v] ys→ ∀S:Nat→Prop,∃css,ED w S 8 r css ys (List.replicate ys.length [])∧je P w r.n ys.length v css.flatten:=by
  intro B ys hf hr S;simp only[Rd]at hr;obtain⟨a,cap,e1,hle,hr⟩:=hr;simp only[AK_,AL0]at e1;subst e1;rcases hr with hr|⟨b,o,rfl,_,hr⟩
  ·have:ys=[]:=AK2 hr
   subst this;exact⟨[],⟨rfl,rfl,by simp,fun i cs y G h=>by simp at h⟩,Ps (css:=[]) rfl (by simp) (.inl rfl)⟩
  ·obtain⟨css,c1,c2,c3,c4⟩:=ng hr
   exact⟨css,ED.flat hf c1 c2 c4,Ps c1 c2 (.inr ⟨b,o,rfl,c3⟩)⟩
 have done:∀{B:Nat→Prop} {ys:List r.D},r.flat=true→Rd w B (.sl r) [v] ys→rows=ys→NG=bx→d=9→
   1≤d∧ ∃E' F css Fs R,FG E w vw bx G E' NG F∧F.Perm (List.flatten Fs++R)∧ED w E'.S (d-1) r css rows Fs∧je P w r.n rows.length v css.flatten:=by
  intro B ys hf hr e1 e2 e3;subst e1 e2 e3;obtain⟨css,k1,k2⟩:=plain hf hr E.S;exact⟨by omega,E,[],css,_,[],FG.refl h,by simp,k1,k2⟩
 unfold fC at e;split at e
 ·rename_i s
  simp only[AIK,AKo]at e;obtain⟨rfl,e⟩:=e;have e:=ALA e;simp only[ALD]at e;obtain⟨rfl,rfl,rfl⟩:=e;have W4:=Tp hv;subst W4;refine⟨by omega,E,[],s.map fun c=>[Value.int .u8 (c.toNat:Int)],_,[],FG.refl h,?_,ED.flat (B:=fun _=>False) rfl (by simp) (by simp[Ty.n]) (fun i cs y a b=> ?_),?_⟩
  ·simp
  ·simp only[ALC,AIX]at a b
   obtain⟨c1,z1,rfl⟩:=a;obtain⟨c2,z2,rfl⟩:=b;rw[z1]at z2;cases z2;simp[Rd]
  ·have:=uz (P:=P) (w:=w) (s:=s)
   simpa[Ty.n]using this
 ·rename_i s q ys
  split at e
  ·rename_i hf
   simp only[AIK,AKo]at e;obtain⟨rfl,e⟩:=e;have e:=ALA e;simp only[ALD]at e;obtain⟨rfl,rfl,rfl⟩:=e;exact done hf hv rfl rfl rfl
  ·split at e
   case isFalse=>cases e
   rename_i hs;simp only[AIK,AKo]at e;obtain⟨rfl,e⟩:=e;have e:=ALA e;simp only[ALD]at e;obtain⟨rfl,rfl,rfl⟩:=e;subst hs;simp only[VR,AMF]at hv;simp only[Rd]at hv;obtain⟨a,cap,e1,hle,hr⟩:=hv;simp only[AK_,AL0]at e1;subst e1;have key:∃css:List (List Value),List.length css=ys.length∧(∀c∈css,c.length=q.n)∧(∀(i:Nat) cs y,css[i]? =some cs→ys[i]? =some y→Rd w E.S q cs y)∧je P w q.n ys.length (.slice a ys.length cap) css.flatten:=by
    rcases hr with hr|⟨b,o,rfl,_,hr⟩
    ·have:ys=[]:=AK2 hr
     subst this;exact⟨[],rfl,by simp,fun i cs y h=>by simp at h,Ps (css:=[]) rfl (by simp) (.inl rfl)⟩
    ·obtain⟨css,c1,c2,c3,c4⟩:=ng hr
     exact⟨css,c1,c2,c4,Ps c1 c2 (.inr ⟨b,o,rfl,c3⟩)⟩
   obtain⟨css,c1,c2,c3,c4⟩:=key;refine⟨ALE _,E,[],css,List.replicate ys.length [],[],FG.refl h,by simp,⟨c1,by simp,c2,fun i cs y G a b c=> ?_⟩,c4⟩;have:G=[]:=ALx (AKh c);subst this;exact cE (c3 i cs y a b)
 ·rename_i b
  split at e
  case h_2=>cases e
  rename_i d0 q ys hb;split at e
  ·rename_i hf
   simp only[AIK,AKo]at e;obtain⟨rfl,e⟩:=e;have e:=ALA e;simp only[ALD]at e;obtain⟨rfl,rfl,rfl⟩:=e;obtain⟨Fs,hB,hS⟩:=h;exact done hf (VX hw hB hS.st hv (q:=q) (ys:=ys) (by simp[KP,hb,E6])) rfl rfl rfl
  ·simp only[AIK,AKo]at e
   obtain⟨rfl,e⟩:=e;have e:=ALA e;simp only[ALD]at e;obtain⟨rfl,rfl,rfl⟩:=e;obtain⟨F,⟨hd,ho⟩,hB⟩:=h.take hb;have hvw:=UT hw hb;simp only[VR,hvw,CE,AIK]at hv;obtain⟨_,_,_,rfl⟩:=hv;obtain⟨m,rfl⟩:∃m,d0=m+1:=⟨d0-1,by omega⟩;obtain⟨a,cap,css,Fs,R,e1,hle,W_,hp,hcase⟩:=qU ho;refine⟨hd,E,F,css,Fs,R,⟨Le.refl _,by simp,fun n B hn=> ?_,hB⟩,hp,W_,?_⟩
   ·rw[ALz]at hn
    split at hn
    ·split at hn
     ·exact .inl (by simpa using hn.symm)
     ·cases hn
    ·exact .inr hn
   ·rw[e1]
    refine Ps W_.1 W_.2.2.1 ?_
    rcases hcase with⟨h0,_⟩|⟨b,o,arr,ty,fr,rfl,_,_,_,_,hc⟩
    ·exact .inl (by omega)
    ·exact .inr ⟨b,o,rfl,hc⟩
 ·rename_i b p _
  split at e
  case h_2=>cases e
  rename_i d0 q ys hb;simp only[AIm]at e;obtain⟨⟨q',zs⟩,e1,e⟩:=e;dsimp only at e;split at e
  case isFalse=>cases e
  rename_i hf;simp only[AIK,AKo]at e;obtain⟨rfl,e⟩:=e;have e:=ALA e;simp only[ALD]at e;obtain⟨rfl,rfl,rfl⟩:=e;obtain⟨Fs,hB,hS⟩:=h;exact done hf (VX hw hB hS.st hv (q:=q') (ys:=zs) (by simp[KP,hb,e1])) rfl rfl rfl
 ·rename_i b p off n
  split at e
  case h_2=>cases e
  rename_i d0 q ys hb;simp only[AIm]at e;obtain⟨⟨q',zs⟩,e1,e⟩:=e;dsimp only at e;split at e
  case isFalse=>cases e
  rename_i hf;simp only[AIK,AKo]at e;obtain⟨rfl,e⟩:=e;have e:=ALA e;simp only[ALD]at e;obtain⟨rfl,rfl,rfl⟩:=e;obtain⟨Fs,hB,hS⟩:=h;exact done hf (VX hw hB hS.st hv (q:=q') (ys:=(zs.drop off).take n) (by simp[KP,hb,e1])) rfl rfl rfl
 ·cases e
theorem Yy{E:Env}{w:World}{vw bx:List Bx}{G:AB1}(h:CR E w vw bx G)(hw:Di bx vw){x:AV}{v:Value}(hv:VR E w vw x v){r:Ty}{rows:List r.D}{NG:List Bx}{d:Nat}
  (e:fE bx x=some ⟨r,rows,NG,d⟩):1≤d∧ ∃F1 F2,FG E w vw bx G E NG (F1++F2)∧Ow w E.S d (.sl r) [v] rows F1:=by
 have tk:∀{b d0:Nat} {q:Ty} {ys:List q.D},bx[b]? =some (.sl d0 q ys)→ ∃F,1≤d0∧Ow w E.S d0 (.sl q) [E.GQ b] ys F∧FG E w vw bx G E (bx.set b .dead) F:=by
  intro b d0 q ys hb;obtain⟨F,⟨hd,ho⟩,hB⟩:=h.take hb;refine⟨F,hd,ho,⟨Le.refl _,by simp,fun n B hn=> ?_,hB⟩⟩;rw[ALz]at hn;split at hn
  ·split at hn
   ·exact .inl (by simpa using hn.symm)
   ·cases hn
  ·exact .inr hn
 unfold fE at e;split at e
 ·rename_i b
  split at e
  case h_2=>cases e
  rename_i d0 q ys hb;simp only[AIK,AKo]at e;obtain⟨rfl,e⟩:=e;have e:=ALA e;simp only[ALD]at e;obtain⟨rfl,rfl,rfl⟩:=e;obtain⟨F,hd,ho,hT⟩:=tk hb;have hvw:=UT hw hb;simp only[VR,hvw,CE,AIK]at hv;obtain⟨_,_,_,rfl⟩:=hv;exact⟨hd,F,[],by simpa using hT,ho⟩
 ·rename_i b off n
  split at e
  case h_2=>cases e
  rename_i d0 q ys hb;simp only[AIK,AKo]at e;obtain⟨rfl,e⟩:=e;have e:=ALA e;simp only[ALD]at e;obtain⟨rfl,rfl,rfl⟩:=e;obtain⟨F,hd,ho,hT⟩:=tk hb;have hvw:=UT hw hb;simp only[VR,hvw,CE,AIK]at hv;obtain⟨_,_,q',zs,a,len,cap,h1,h2,h3,rfl⟩:=hv;simp only[E6,AIK,AKo]at h1;obtain⟨rfl,h1⟩:=h1;obtain rfl:=ALA h1;rw[h3]at ho;obtain⟨m,rfl⟩:∃m,d0=m+1:=⟨d0-1,by omega⟩;obtain⟨F1,F2,hp,od⟩:=uF ho h2;exact⟨hd,F1,F2,⟨hT.le,hT.len,hT.within,hT.boxes.perm (AKs _ hp)⟩,od⟩
 ·cases e
end Go.Fw
end
section
namespace Go.Fw
theorem jE{P:Program}{w:World}{a:Option Addr}{n cap size:Nat}{css:List (List Value)}(hl:css.length=n)(hc:∀c∈css,c.length=size)
  (h:n=0∨ ∃b o,a=some ⟨b,o,none⟩∧B7 w b o css.flatten):∀w',w'.heap=w.heap→(Builtin.firstCells size n (.slice a n cap)).run P w' = .ok css.flatten.toArray w':=
 (Ps (P:=P) (cap:=cap) hl hc h).cells
theorem jZ{z:Array Value}{n:Nat}:(Builtin.zeroCells z n).size=n*z.size:=size_zeroCells z n
section
variable{Y:Type} {P:Program} {T:Hq} (hT:D4 P T) {o:Oper} {E:Env} {σ:St} {a:Act} {w:World} {k:K Y} {y:Y}
include hT
theorem dV(h:Rel E σ a w){E2:Env}{VP:List Bx}{F Fd R:AB1}{t u ty:TypeId}{ts:Array TypeId}(mW:ts[0]? =some t)(mb:ts[1]? =some u)
  (hu:(∃e,P.underlying u=some (.slice e))∨P.underlying u=some .string) {m:Nat} {r:Ty} (V2:T.Oq t r=true)
  (kT:FG E w σ.bx σ.bx [] E2 VP F) {v1 v2:Value} {drows PF:List r.D} {css:List (List Value)} {Fs:List AB1}
  (ho:Ow w E2.S (m+1) (.sl r) [v1] drows Fd) (hs:ED w E2.S m r css PF Fs) (hn:je P w r.n PF.length v2 css.flatten) (hp:F.Perm (Fd++Fs.flatten++R)) (eK:drows.length+PF.length≤Dd):
  ∃v w' E',(Builtin.append_ ts ty #[v1,v2]).run P w= .ok v w'∧Rel E' { σ with bx:=VP++[.sl (m+1) r (drows++PF)] } a w'∧Nx [] E σ.bx w E' (VP++[.sl (m+1) r (drows++PF)]) w'∧
   XR E' w' (VP++[.sl (m+1) r (drows++PF)]) (.c (.ref VP.length [])) v:=by
 obtain⟨e,ti,hut,N8,hs1,hby,hrow⟩:=Lk hT V2;obtain⟨i,z,i1,i2,i3,i4,i5,hg⟩:=YN hT N8 hrow;rw[hs1]at i2;obtain⟨Fs0,hB1,Sm⟩:=kT.boxes;simp only[AKb]at Sm;have hdF:∀c∈Fd,c∈F:=fun c hc=>hp.mem_iff.2 (by simp[hc])
 have hsF:∀c∈Fs.flatten,c∈F:=fun c hc=>hp.mem_iff.2 (by simp only[AJ6];exact .inl (.inr hc))
 have ndF:=(AJq.1 (hp.nodup_iff.1 (AJq.1 Sm.nodup).2.1)).1;have ltF:∀c∈F,c<w.heap.size:=fun c hc=>Sm.lt c (by simp only[AJ6];exact .inr hc)
 have AIb:∀c∈F,¬E2.S c:=fun c hc hS=>Sm.free c (by simp only[AJ6];exact .inr hc) (Sm.st c hS)
 have ho0:=ho;obtain⟨ad,cap,dcss,Fs1,R1,rfl,hle,hd,hp1,hcase⟩:=qU ho;have Xp:css.flatten.length=PF.length*r.n:=by rw[Ua hs.2.2.1,hs.1]
 have hdl:dcss.flatten.length=drows.length*r.n:=by rw[Ua hd.2.2.1,hd.1]
 by_cases jr:drows.length+PF.length≤cap
 ·rcases hcase with⟨h0,hF0⟩|⟨b,of,arr,ty0,fr,rfl,hb,Mm,hunf,rfl,hc⟩
  ·
   have hd0:drows=[]:=AK2 (by omega);have hs0:PF=[]:=AK2 (by omega);subst hd0 hs0;have hc0:css=[]:=AK2 hs.1;subst hc0 h0;have jh:=eQ (P:=P) (w:=w) (ty:=ty) mW mb hut hu i1 i2 (a:=ad) (x:=v2) (by simpa using hn);obtain⟨r1,r2,r3⟩:=Px h kT (w':=w) (d:=m+1) (by omega) ho0 (fun c hc=> .inl (hdF c hc)) (AJq.1 ndF).1 (fun c hc=>ltF c (hdF c hc)) (fun _ _ _=>rfl) ⟨rfl,rfl,rfl,ALE _⟩;exact⟨_,_,_,jh,r1,r2,r3⟩
  ·
   have Ve:of+drows.length*r.n+css.flatten.length≤arr.size:=by
    have:(drows.length+PF.length)*r.n≤cap*r.n:=ALL _ jr;rw[AL4]at this;omega
   have jh:=ja (P:=P) (w:=w) (ty:=ty) mW mb hut hu i1 i2 (b:=b) (o:=of) hn jr (bO hb Ve hunf) hs.one;have hbF:b∈F:=hdF b (by simp);have aO:∀c,c∈Fs1.flatten∨c∈Fs.flatten∨E2.S c→c≠b:=by
    intro c mB e;subst e;rcases mB with mB|mB|mB
    ·exact(ANm.1 (AJq.1 ndF).1).1 mB
    ·exact(AJq.1 ndF).2.2 c (by simp) c mB rfl
    ·exact AIb c hbF mB
   have V4:∀c,c≠b→(w.setCells b (of+drows.length*r.n) css.flatten).heap[c]? =w.heap[c]?:=fun c hc=>Iz _ _ _ _ _ hc
   have hd':=hd.mono (w':=w.setCells b (of+drows.length*r.n) css.flatten) (S':=E2.S) (fun _ h=>h) (fun c hc=>V4 c (aO c (.inr (.inr hc)))) (fun c hc=>V4 c (aO c (.inl hc)));have hs':=hs.mono (w':=w.setCells b (of+drows.length*r.n) css.flatten) (S':=E2.S) (fun _ h=>h) (fun c hc=>V4 c (aO c (.inr (.inr hc)))) (fun c hc=>V4 c (aO c (.inr (.inl hc))));have XX:=hd'.append hs';have lh:B7 (w.setCells b (of+drows.length*r.n) css.flatten) b of (dcss++css).flatten:=by
    rw[AL8];refine B7.append (ZF hc hb Ve (.inr (.inl (by omega)))) ?_
    rw[hdl];exact Q7 hb Ve
   have how:Ow (w.setCells b (of+drows.length*r.n) css.flatten) E2.S (m+1) (.sl r) [.slice (some ⟨b,of,none⟩) (drows.length+PF.length) cap] (drows++PF) (b::(Fs1++Fs).flatten):=by
    simp only[Ow];refine⟨_,cap,by rw[AKE],by rw[AKE];exact jr,.inr ⟨b,of,_,ty0,fr,Fs1++Fs,rfl,IM _ _ _ _ _ _ _ hb,by rw[IL];exact Mm,by rw[IL];exact hunf,rfl,XX.2.1,fun j q G hq hG=> ?_⟩⟩;have hj:=(AIE.1 hq).1;have h1:=XX.1;have qq:j<(dcss++css).length:=by omega
    refine⟨(dcss++css)[j],XX.2.2.1 _ (AKp _),fun x u hx=> ?_,XX.2.2.2 j _ _ _ (AIH qq) hq hG⟩;have hxl:=(AIE.1 hx).1;rw[XX.2.2.1 _ (AKp _)]at hxl;have:=Xi (n:=r.n) (css:=dcss++css) (ex:=[]) (i:=j) XX.2.2.1 (AIH qq) hxl;rw[AKb,hx]at this;have:=lh _ _ this
    rwa [←ANz]at this
   have dZ:(b::(Fs1++Fs).flatten)=(b::Fs1.flatten)++Fs.flatten:=by simp
   rw[dZ]at how;obtain⟨r1,r2,r3⟩:=Px h kT (w':=w.setCells b (of+drows.length*r.n) css.flatten) (d:=m+1) (by omega) how (fun c hc=> .inl ((AJ6.1 hc).elim (hdF c) (hsF c))) ndF
    (fun c hc=>by rw[FZ];exact ltF c ((AJ6.1 hc).elim (hdF c) (hsF c))) (fun c hc hcF=>V4 c (fun e=>hcF (e▸hbF))) (Ca _ _ _ _)
   exact⟨_,_,_,jh,r1,r2,r3⟩
 ·
  have hold:drows.length=0∨ ∃b o,ad=some ⟨b,o,none⟩∧B7 w b o dcss.flatten:=by
   rcases hcase with⟨h0,_⟩|⟨b,of,arr,ty0,fr,rfl,hb,Mm,hunf,rfl,hc⟩
   ·exact .inl (by omega)
   ·exact .inr ⟨b,of,rfl,hc⟩
  have jh:=eo (P:=P) (w:=w) (ty:=ty) mW mb hut hu i1 i4 i2 (jE (P:=P) (cap:=cap) hd.1 hd.2.2.1 hold) hn (by omega) eK (by omega);have s_:=grownCap_ge w (drows.length+PF.length) cap e
  generalize hgc:grownCap w (drows.length+PF.length) cap e=gc at jh s_
  let arr:Array Value:=dcss.flatten.toArray++css.flatten.toArray++Builtin.zeroCells z.cells (gc-(drows.length+PF.length))
  have Zm:arr.toList=(dcss++css).flatten++(Builtin.zeroCells z.cells (gc-(drows.length+PF.length))).toList:=by simp[arr]
  have hzl:z.cells.size=r.n:=by rw[←AN3,i5,Hk]
  have AQS:arr.size=gc*r.n:=by
   simp only[arr,Array.size_append,List.size_toArray,jZ,hzl,Xp,hdl,←AL4];congr 1;omega
  let w':=w.drew.alloc (.cells arr e)
  have new:w'.heap[w.heap.size]? =some (.cells arr e):=by
   show(w.heap.push (.cells arr e))[w.heap.size]? =_
   simp
  have vC:∀c,c<w.heap.size→w'.heap[c]? =w.heap[c]?:=fun c hc=>Md (w:=w) (o:= .cells arr e) hc
  have hR1:∀c∈Fs1.flatten,c∈Fd:=fun c hc=>hp1.mem_iff.2 (by simp only[AJ6];exact .inl hc)
  have hd':=hd.mono (w':=w') (S':=E2.S) (fun _ h=>h) (fun c hc=>vC c (Sm.ZB c (Sm.st c hc))) (fun c hc=>vC c (ltF c (hdF c (hR1 c hc))));have hs':=hs.mono (w':=w') (S':=E2.S) (fun _ h=>h) (fun c hc=>vC c (Sm.ZB c (Sm.st c hc))) (fun c hc=>vC c (ltF c (hsF c hc)));have XX:=hd'.append hs';have how:Ow w' E2.S (m+1) (.sl r) [.slice (some ⟨w.heap.size,0,none⟩) (drows++PF).length gc] (drows++PF) (w.heap.size::(Fs1++Fs).flatten):=
   an new Zm XX.1 (by rw[AKE];exact s_) (by omega) (ca _) XX.2.1 XX.2.2.2
  rw[AKE]at how;have XY:∀c∈(Fs1++Fs).flatten,c∈Fd++Fs.flatten:=by
   intro c hc;rw[AL8,AJ6]at hc;exact AJ6.2 (hc.imp (hR1 c) id)
  have nd1:(Fs1++Fs).flatten.Nodup:=by
   rw[AL8];have n1:=(AJq.1 (hp1.nodup_iff.1 (AJq.1 ndF).1)).1;exact AJq.2 ⟨n1,(AJq.1 ndF).2.1,fun x hx y hy=>(AJq.1 ndF).2.2 x (hR1 x hx) y hy⟩
  have AF6:∀c∈(Fs1++Fs).flatten,c∈F:=fun c hc=>(AJ6.1 (XY c hc)).elim (hdF c) (hsF c)
  obtain⟨r1,r2,r3⟩:=Px h kT (w':=w') (d:=m+1) (by omega) how (by
    intro c hc;rcases AKv.1 hc with rfl|hc
    ·exact .inr (ALE _)
    ·exact .inl (AF6 c hc)) (by
    refine ANm.2 ⟨fun hc=> ?_,nd1⟩;have:=ltF _ (AF6 _ hc);omega) (by
    intro c hc;rcases AKv.1 hc with rfl|hc
    ·simp[w']
    ·have:=ltF _ (AF6 _ hc)
     simp[w'];omega) (fun c hc _=>vC c hc) ⟨rfl,rfl,rfl,by simp[w']⟩
  exact⟨_,_,_,jh,r1,r2,r3⟩
end
end Go.Fw
end
section
namespace Go.Fw
theorem TW{α β:Type}{args:Array α}{f:α→β}{x y:β}(h:args.toList.map f=[x,y]):∃a b,args= #[a,b]∧f a=x∧f b=y:=by
 obtain⟨l⟩:=args
 match l,h with
 |[a,b],h=>simp at h;exact⟨a,b,rfl,h.1,h.2⟩
theorem TK{α β:Type}{args:Array α}{f:α→β}{x:β}(h:args.toList.map f=[x]):∃a,args= #[a]∧f a=x:=by
 obtain⟨l⟩:=args
 match l,h with
 |[a],h=>simp at h;exact⟨a,rfl,h⟩
section
variable{Y:Type} {P:Program} {T:Hq} (hT:D4 P T) {o:Oper} {E:Env} {σ:St} {a:Act} {w:World} {k:K Y} {y:Y}
include hT
theorem oB(h:Rel E σ a w){c:Call}{x1 x2:XV}(ho:o.op= .call c)(hc:c.callee= .builtin .append)(Gp:c.args.toList.map σ.ev=[x1,x2])(e:YV T c.argTypes σ x1 x2 k=some y):I5 P o E σ a w k y:=by
 obtain⟨o1,o2,hargs',rfl,rfl⟩:=TW Gp;have XF:=h.ev o1;have V0:=h.ev o2;have exec:∀{v w'},(Builtin.append_ c.argTypes o.type #[a.eval o1,a.eval o2]).run P w= .ok v w'→(execOp a.eval o).run P w= .ok (.value v) w':=by
  intro v w' hr;simp only[execOp,ho,resolve,hc,hargs',invoke,builtin,Sem.run_bind,Sem.run_pure,Result.andThen_ok,List.map_toArray,AN0,AOR,hr]
 unfold YV at e;split at e
 case h_2=>cases e
 rename_i t u mW mb;split at e
 case isFalse=>cases e
 rename_i hu;have hu':(∃e,P.underlying u=some (.slice e))∨P.underlying u=some .string:=by
  rw[ALn]at hu;exact hu.imp (bn hT) (Tm hT)
 split at e
 ·
  rename_i z hz1 hz2;rw[hz1]at XF;rw[hz2]at V0;simp only[AIm]at e;obtain⟨⟨r,rows,NG,d⟩,e1,e⟩:=e;dsimp only at e;split at e
  case isFalse=>cases e
  rename_i V2;split at e
  case isFalse=>cases e
  rename_i eK;obtain⟨hd,E',F,css,Fs,R,kT,hp,hs,hn⟩:=ZC (P:=P) h.bx (Di.refl _) V0 e1;obtain⟨m,rfl⟩:∃m,d=m+1:=⟨d-1,by omega⟩;have AMH:a.eval o1= .slice none 0 0:=XF;obtain⟨v,w',E3,hr,r1,r2,r3⟩:=dV hT h (ty:=o.type) mW mb hu' V2 kT (v1:= .slice none 0 0) (Fd:=[]) (drows:=[]) iS hs hn (R:=R) (by simpa using hp) (by simpa using eK);rw[←AMH]at hr;simp only[ALB]at r1 r3;exact⟨_,_,_,_,_,.inl (exec hr),r1,r3,r2.any,rfl,e⟩
 ·rename_i z1 z2 qB hz1 hz2
  rw[hz1]at XF;rw[hz2]at V0;simp only[AIm]at e;obtain⟨⟨r,rows,aH,d⟩,e1,e⟩:=e;dsimp only at e;split at e
  case isFalse=>cases e
  rename_i V2;simp only[AIm]at e;obtain⟨⟨q,srows0,VP,ds⟩,e2,PF,e3,e⟩:=e;dsimp only at e e3;obtain⟨hqr,e4⟩:=F_ e3;subst hqr;subst e4;dsimp only at e;split at e
  case isFalse=>cases e
  rename_i eK;obtain⟨hd,F1,F2,k1,ho1⟩:=Yy h.bx (Di.refl _) XF e1;obtain⟨hds,E',F3,css,Fs,R,k2,hp,hs,hn⟩:=ZC (P:=P) k1.boxes ((Di.refl _).gz k1) V0 e2;obtain⟨m,hm⟩:∃m,min d ds=m+1:=⟨min d ds-1,by omega⟩;rw[hm]at e;obtain⟨A,W1,p1,ho1'⟩:=Hr (d:=m+1) (by omega) ho1;obtain⟨Gs,W2,p2,hs'⟩:=hs.weaken (d':=m) (by omega);have hB:=k2.boxes.perm (G':=(A++Gs.flatten++(R++F2))++(W1++W2)++[]) (by
   rw[AKb,AKb];refine((hp.trans (p2.append_right R)).append (p1.append_right F2)).trans ?_
   classical
   rw[AOQ];intro c;simp only[List.count_append];omega)
  obtain⟨hle,Sm⟩:=hB.share;have kT:FG E w σ.bx σ.bx [] _ VP (A++Gs.flatten++(R++F2)):=⟨(k1.le.trans k2.le).trans hle,k2.len.trans k1.len,fun b B hb=>(k2.within b B hb).elim .inl (k1.within b B),Sm⟩;have ho2:Ow w (fun c=>E'.S c∨c∈W1++W2) (m+1) (.sl q) [a.eval o1] rows A:=
   DB (fun c hc=>hc.imp (k2.le.S c) (by simp_all)) (fun _ _=>rfl) (fun _ _=>rfl) ho1'
  have wG:ED w (fun c=>E'.S c∨c∈W1++W2) m q css srows0 Gs:=hs'.mono (fun c hc=>hc.imp id (by simp_all)) (fun _ _=>rfl) (fun _ _=>rfl);obtain⟨v,w',E3,hr,r1,r2,r3⟩:=dV hT h (ty:=o.type) mW mb hu' V2 kT ho2 wG hn (AOS _) eK;exact⟨_,_,_,_,_,.inl (exec hr),r1,r3,r2.any,rfl,e⟩
 ·cases e
end
end Go.Fw
end
section
namespace Go.Fw
theorem ey{P:Program}{w:World}{b o:Nat}{ty:TypeId}{v:Value}(ht:w.there b o v.cells.toList.length)(hi:(P.info? ty).map (·.size)=some v.cells.toList.length)(h1:∀u∈v.cells.toList,u.oneCell' =true):
  (Instr.storeAt ty (.pointer (some ⟨b,o,none⟩)) v).run P w= .ok () (w.setCells b o v.cells.toList):=by
 have:=run_storeCells_cells (P:=P) b o v.cells.toList 0 w (fun j hj=>by simpa using(ht j hj).1) (fun j hj=>by simpa using(ht j hj).2) h1;cases hq:P.info? ty with
 |none=>simp[hq]at hi
 |some i=>
  have hs:v.cells.size=i.size:=by simp[hq]at hi;omega
  simp only[ANB]at this;simp[Instr.storeAt,Instr.sureAddr,storeVar,sizeOf,typeInfo,hq,hs,this]
theorem Wp{E E1 E':Env}{w w':World}{vw aH NG:List Bx}{F:AB1}(b0:Nat)(k:FG E w vw vw [] E1 aH F)(st:∀c,E.S c→E.T c)(hlen:vw.length≤NG.length)
  (bE:∀b d r rows,b≠b0→b<vw.length→NG[b]? =some (.sl d r rows)→aH[b]? =some (.sl d r rows)) (lE:∀b,b<vw.length→E'.GB b=E1.GB b) (Xt:∀b,b<vw.length→E'.GQ b=E1.GQ b) (hT:E'.T=E1.T) (hS:E'.S=E1.S)
  (hw:∀c,c<w.heap.size→c∉F→w'.heap[c]? =w.heap[c]?)
  (h0:∀d r rows,NG[b0]? =some (.sl d r rows)→ ∃d0 Na,vw[b0]? =some (.sl d0 r Na)∧
   ∀p,CX r Na p→ ∀q ys,E6 r Na p=some ⟨q,ys⟩→CX r rows p∧(∃gv,E6 r rows p=some ⟨q,gv⟩∧List.length gv=List.length ys)∧
    ∀h,HP w (E.GQ b0) p=some h→HP w' (E'.GQ b0) p=some h):PI E w vw E' w' NG:=by
 have hB:=k.boxes;obtain⟨Fs,⟨h1,h2⟩,h3⟩:=hB;simp only[AKb]at h3;have hT':∀c,E1.T c→w'.heap[c]? =w.heap[c]?:=fun c hc=>hw c (h3.ZB c hc) fun hf=>h3.free c (by simp[hf]) hc
 refine⟨hlen,fun b hb=>by rw[lE b hb,k.le.GB],fun c hc=>by rw[hT];exact k.le.T c hc,fun c hc=>by rw[hS];exact k.le.S c hc,st,fun c hc=>hT' c (k.le.T c hc),fun b d r rows hb e=> ?_⟩;by_cases hb0:b=b0
 ·subst hb0
  exact h0 d r rows e
 have e1:=bE b _ _ _ hb0 hb e;rcases k.within b _ e1 with e2|e2
 ·cases e2
 ·refine⟨d,rows,e2,fun p hp q ys hg=>⟨hp,⟨ys,hg,rfl⟩,fun h' hh=> ?_⟩⟩
  have hF:Fs[b]? =some (Fs[b]'(by have:=(AIE.1 e1).1;omega)):=AIH _;obtain⟨hd,ho⟩:=h2 b _ _ e1 hF;rw[Xt b hb];rw[←k.le.GQ]at hh;refine lx ho (fun c hc=>hT' c (h3.st c hc)) (fun c hc=> ?_) hp hg hh;have XY:c∈Fs.flatten:=AK9.2 ⟨_,AKh hF,hc⟩;exact hw c (h3.lt c (by simp[XY])) fun hf=>(AJq.1 h3.nodup).2.2 c XY c hf rfl
def Bx.map(f:AV→AV):Bx→Bx
 | .mem cs=> .mem (cs.map f)
 |B=>B
theorem CR.AKm{E E':Env}{w w':World}{vw vw' bx:List Bx}{G:AB1}(f:AV→AV)(h:CR E w vw bx G)(k:∀x v,VR E w vw x v→VR E' w' vw' (f x) v)
  (hS:∀c,E.S c→E'.S c) (lE:∀b,b<bx.length→E'.GB b=E.GB b) (Xt:∀b,b<bx.length→E'.GQ b=E.GQ b)
  (hw:∀c,(E.S c∨(¬E.T c∧c∉G))→c<w.heap.size→w'.heap[c]? =w.heap[c]?)
  (vT:∀F,Sep E w (F++G)→Sep E' w' (F++G)):CR E' w' vw' (bx.map (Bx.map f)) G:=by
 obtain⟨Fs,⟨hl,h1⟩,h2⟩:=h;refine⟨Fs,⟨by simpa using hl,fun n B F hn hF=> ?_⟩,vT _ h2⟩;rw[ALC,AIX]at hn;obtain⟨B,hn,rfl⟩:=hn;have Dj:=(AIE.1 hn).1;have h3:=h1 n B F hn hF;have pM:∀c∈F,c∈Fs.flatten:=fun c hc=>AK9.2 ⟨F,AKh hF,hc⟩
 have hFw:∀c∈F,w'.heap[c]? =w.heap[c]?:=fun c hc=>hw c (.inr ⟨h2.free c (by simp[pM c hc]),fun hg=>by
  have:=(AJq.1 h2.nodup).2.2 c (pM c hc) c hg;exact this rfl⟩) (h2.lt c (by simp[pM c hc]))
 have ix:∀c,E.S c→w'.heap[c]? =w.heap[c]?:=fun c hc=>hw c (.inl hc) (h2.ZB c (h2.st c hc))
 cases B with
 |mem cs=>
  obtain⟨rfl,arr,ty,fr,ha,hu,hv⟩:=h3;refine⟨by rw[lE n Dj],arr,ty,fr,?_,hu,Bw.I7 f k hv⟩;rw[lE n Dj,hFw _ (by simp),ha]
 |sl d r rows=>
  obtain⟨hd,ho⟩:=h3;refine⟨hd,?_⟩;rw[Xt n Dj];exact DB hS ix hFw ho
 |dead=>exact h3
theorem Bx.map_id:∀B:Bx,Bx.map id B=B
 | .mem cs=>by simp[Bx.map]
 | .sl _ _ _=>rfl
 | .dead=>rfl
theorem Vc(bx:List Bx):bx.map (Bx.map id)=bx:=by
 induction bx with
 |nil=>rfl
 |cons B l ih=>simp[ih,Bx.map_id]
theorem dQ(b:Nat)(bx:List Bx):bx.map (qp b)=bx.map (Bx.map (HX b)):=by
 apply ANx;intro B _;cases B<;>rfl
theorem qx{E:Env}{σ:St}{a:Act}{w:World}(h:Rel E σ a w){b j:Nat}{cs W0:List AV}(hb:σ.bx[b]? =some (.mem cs)){xs:List AV}{vs:List Value}(hx:bR E w σ.bx xs vs)(aO:xs≠[])
  (e:TZ cs j xs=some W0):
  w.there (E.GB b) j vs.length∧Rel E { σ with bx:=σ.bx.set b (.mem W0) } a (w.setCells (E.GB b) j vs)∧Nx [b] E σ.bx w E (σ.bx.set b (.mem W0)) (w.setCells (E.GB b) j vs):=by
 have st:=h.bx.st;obtain⟨F,⟨rfl,arr,ty,fr,ha,hu,hv⟩,hB⟩:=h.bx.take hb;simp only[AKb]at hB;have Dj:=(AIE.1 hb).1;rcases TS hv hx e with⟨h1,h2⟩|⟨h1,_⟩
 case inr=>exact absurd h1 aO
 have Ve:j+vs.length≤arr.size:=by
  have l1:=Bw.len hv;have l2:=Bw.len hx;simp only[AN3]at l1;omega
 have Rg: ¬E.T (E.GB b):=hB.uO _ (by simp);have hB0:=hB;have V4:∀c,c≠E.GB b→(w.setCells (E.GB b) j vs).heap[c]? =w.heap[c]?:=fun c hc=>Iz _ _ _ _ _ hc
 have hw:∀c,c<w.heap.size→c∉[E.GB b]→(w.setCells (E.GB b) j vs).heap[c]? =w.heap[c]?:=fun c _ hc=>V4 c (by simpa using hc)
 have kT:FG E w σ.bx σ.bx [] E (σ.bx.set b .dead) [E.GB b]:=⟨Le.refl _,by simp,fun n B hn=>by
  by_cases en:n=b
  ·subst en
   rw[AKW Dj]at hn;exact .inl (by simpa using hn.symm)
  ·rw[AJo (fun h=>en h.symm)]at hn
   exact .inr hn,by simpa using hB⟩
 have keep:PI E w σ.bx E (w.setCells (E.GB b) j vs) (σ.bx.set b (.mem W0)):=Wp b kT st (by simp) (fun n d r rows hn _ hq=>by
   rw[AJo (by omega)]at hq⊢;exact hq) (fun _ _=>rfl) (fun _ _=>rfl) rfl rfl hw (fun d r rows hq=>by
   rw[AKW Dj]at hq;cases hq)
 refine⟨bO ha Ve hu,⟨h.Kk,h.tm.imp fun _ _ hq=>L9 keep hq,?_⟩,⟨⟨fun _ h=>h,fun _ h=>h,fun _ h=> .inl h,fun _ h=> .inl h,fun c hc=>V4 c (fun e=>Rg (e▸hc)),(Ca _ _ _ _).os,(Ca _ _ _ _).tape,(Ca _ _ _ _).output,(Ca _ _ _ _).size⟩,by simp,fun _ _=>⟨rfl,rfl⟩,fun n hn=>by
  rw[AJo (fun e=>by subst e;rw[hb]at hn;cases hn)];exact hn,fun n B B' ir hB Oa qk=>by
  simp at ir;rw[AJo (fun e=>ir e.symm),hB]at Oa;cases Oa;refine⟨RC.refl qk,fun c hc=>V4 c (fun e=> ?_)⟩;obtain⟨Fs,⟨f1,f2⟩,f3⟩:=hB0;have Sm:(σ.bx.set b .dead)[n]? =some B:=by rw[AJo (fun e=>ir e.symm)];exact hB
  have hF:Fs[n]? =some (Fs[n]'(by have:=(AIE.1 Sm).1;omega)):=AIH _;rcases YX (f2 n B _ Sm hF) hc with hs|hs
  ·exact Rg (e▸st c hs)
  ·exact(AJq.1 f3.nodup).2.2 c (AK9.2 ⟨_,AKh hF,hs⟩) (E.GB b) (by simp) e⟩⟩
 have hT:=hB.turn (E':=E) (w':=w.setCells (E.GB b) j vs) (vw':=σ.bx.set b (.mem W0)) (fun x v hq=>EW keep hq) (fun _ h=>h) (fun _ _=>rfl) (fun _ _=>rfl) (fun c hc _=>V4 c (fun e=>by
   rcases hc with hc|hc
   ·exact Rg (e▸st c hc)
   ·exact hc.2 (by simp[e]))) (fun F hF=>⟨hF.nodup,hF.free,fun c hc=>by rw[FZ];exact hF.lt c hc,hF.st,fun c hc=>by rw[FZ];exact hF.ZB c hc⟩)
 have:=CR.put (b:=b) (B:= .mem W0) (F:=[E.GB b]) (G:=[]) (by simpa using hT) (by rw[AKW Dj]) ⟨rfl,ET arr j vs,ty,fr,IM _ _ _ _ _ _ _ ha,by rw[IL];exact hu,h1.imp fun _ _ hq=>EW keep hq⟩;rw[AOE]at this;exact this
theorem Sv:∀{r:Ty} {j j':Nat} {x:r.D} {t:Ty} {y:t.D} {x':r.D},Cq r j x t y=some x'→j'≠j→Am r j' x' =Am r j' x
 | .cons c r,0,j',x,t,y,x',e,hj=>by
  simp only[Cq]at e;split at e
  ·rename_i h
   subst h;simp only[AIK]at e;subst e;cases j' with
   |zero=>exact absurd rfl hj
   |succ j' =>simp[Am]
  ·cases e
 | .cons c r,j+1,j',x,t,y,x',e,hj=>by
  simp only[Cq,AIX]at e;obtain⟨z,e1,rfl⟩:=e;cases j' with
  |zero=>simp[Am]
  |succ j' =>
   simp only[Am];exact Sv e1 (by omega)
 | .unit,_,_,_,_,_,_,e,_=>by simp[Cq]at e
 | .int k,0,j',x,t,y,x',e,hj=>by cases j' with
  |zero=>exact absurd rfl hj
  |succ j' =>simp[Am]
 | .bool,0,j',x,t,y,x',e,hj=>by cases j' with
  |zero=>exact absurd rfl hj
  |succ j' =>simp[Am]
 | .str,0,j',x,t,y,x',e,hj=>by cases j' with
  |zero=>exact absurd rfl hj
  |succ j' =>simp[Am]
 | .sl _,0,j',x,t,y,x',e,hj=>by cases j' with
  |zero=>exact absurd rfl hj
  |succ j' =>simp[Am]
 | .int _,_+1,_,_,_,_,_,e,_=>by simp[Cq]at e
 | .bool,_+1,_,_,_,_,_,e,_=>by simp[Cq]at e
 | .str,_+1,_,_,_,_,_,e,_=>by simp[Cq]at e
 | .sl _,_+1,_,_,_,_,_,e,_=>by simp[Cq]at e
theorem Q3:∀{r:Ty} {j:Nat} {x:r.D} {t:Ty} {y:t.D} {x':r.D},Cq r j x t y=some x'→Am r j x' =some ⟨t,y⟩∧ ∃y0:t.D,Am r j x=some ⟨t,y0⟩
 | .cons c r,0,x,t,y,x',e=>by
  simp only[Cq]at e;split at e
  ·rename_i h
   subst h;simp only[AIK]at e;subst e;exact⟨rfl,_,rfl⟩
  ·cases e
 | .cons c r,j+1,x,t,y,x',e=>by
  simp only[Cq,AIX]at e;obtain⟨z,e1,rfl⟩:=e;simp only[Am];exact Q3 e1
 | .unit,_,_,_,_,_,e=>by simp[Cq]at e
 | .int k,0,x,t,y,x',e=>by
  simp only[Cq]at e;split at e
  ·rename_i h;subst h;cases e;exact⟨rfl,_,rfl⟩
  ·cases e
 | .bool,0,x,t,y,x',e=>by
  simp only[Cq]at e;split at e
  ·rename_i h;subst h;cases e;exact⟨rfl,_,rfl⟩
  ·cases e
 | .str,0,x,t,y,x',e=>by
  simp only[Cq]at e;split at e
  ·rename_i h;subst h;cases e;exact⟨rfl,_,rfl⟩
  ·cases e
 | .sl _,0,x,t,y,x',e=>by
  simp only[Cq]at e;split at e
  ·rename_i h;subst h;cases e;exact⟨rfl,_,rfl⟩
  ·cases e
 | .int _,_+1,_,_,_,_,e=>by simp[Cq]at e
 | .bool,_+1,_,_,_,_,e=>by simp[Cq]at e
 | .str,_+1,_,_,_,_,e=>by simp[Cq]at e
 | .sl _,_+1,_,_,_,_,e=>by simp[Cq]at e
theorem bt{r:Ty}{rows:List r.D}{i k:Nat}{x:r.D}(hi:i<rows.length):rowAt r (rows.set i x) k=if k=i then x else rowAt r rows k:=by
 unfold rowAt;rw[ANn,ANn,ALz];by_cases e:k=i
 ·subst e;simp[hi]
 ·rw[AIU (fun h=>e h.symm),AIU e]
theorem iP:∀{p:List dK} {r:Ty} {rows CC:List r.D} {q:Ty} {ys gv:List q.D},E6 r rows p=some ⟨q,ys⟩→gv.length=ys.length→fb r rows p q gv=some CC→CC.length=rows.length
 |[],r,rows,CC,q,ys,gv,h1,h2,h3=>by
  simp only[E6,AIK,AKo]at h1;obtain⟨rfl,h1⟩:=h1;obtain rfl:=ALA h1;simp only[fb,AOO,NW,AIK]at h3;rw[←h3];exact h2
 |s::p,r,rows,CC,q,ys,gv,h1,h2,h3=>by
  simp only[fb]at h3;split at h3
  ·simp only[AIm,AIX]at h3
   obtain⟨_,_,_,_,rfl⟩:=h3;simp
  ·cases h3
theorem dN{t:Ty}(ht:t.scalar=true){y:t.D}{q:Ty}{i j:Nat}:∀{p':List dK} {r:Ty} {rows CC:List r.D} {p:List dK} {ys:List q.D} {Vl:q.D},CX r rows p→E6 r rows p=some ⟨q,ys⟩→i<ys.length→
  Cq q j (rowAt q ys i) t y=some Vl→fb r rows p q (ys.set i Vl)=some CC→CX r rows p'→ ∀q' zs,E6 r rows p' =some ⟨q',zs⟩→
   CX r CC p'∧ ∃zs',E6 r CC p' =some ⟨q',zs'⟩∧List.length zs' =List.length zs
 |[],r,rows,CC,p,ys,Vl,_,hg,hi,hc,hs,_,q',zs,n0=>by
  simp only[E6,AIK,AKo]at n0;obtain⟨rfl,n0⟩:=n0;obtain rfl:=ALA n0;exact⟨by simp[CX],CC,by simp[E6],iP hg (by simp) hs⟩
 |s'::p',r,rows,CC,p,ys,Vl,hp,hg,hi,hc,hs,hp',q',zs,n0=>by
  have hlen:=iP hg (by simp) hs;simp only[CX]at hp'⊢;obtain⟨g1,g2,g3⟩:=hp';simp only[E6]at n0⊢;split at n0
  case h_2=>cases n0
  rename_i q0 x0 Xq;rw[Xq]at g3;dsimp only at g3;have key:∃x1,Am r s'.j (rowAt r CC s'.i)=some ⟨.sl q0,x1⟩∧CX q0 x1 p'∧ ∃zs',E6 q0 x1 p' =some ⟨q',zs'⟩∧List.length zs' =List.length zs:=by
   have same:Am r s'.j (rowAt r CC s'.i)=some ⟨.sl q0,x0⟩→ ∃x1,Am r s'.j (rowAt r CC s'.i)=some ⟨.sl q0,x1⟩∧CX q0 x1 p'∧ ∃zs',E6 q0 x1 p' =some ⟨q',zs'⟩∧List.length zs' =List.length zs:=
    fun h=>⟨x0,h,g3,zs,n0,rfl⟩
   cases p with
   |nil=>
    simp only[E6,AIK,AKo]at hg;obtain⟨rfl,hg⟩:=hg;obtain rfl:=ALA hg;simp only[fb,AOO,NW,AIK]at hs;subst hs;apply same;rw[bt hi];split
    ·rename_i e
     subst e;by_cases ej:s'.j=j
     ·obtain⟨_,y0,h0⟩:=Q3 hc
      rw[ej,h0]at Xq;simp only[AIK,AKo]at Xq;obtain⟨rfl,_⟩:=Xq;simp[Ty.scalar]at ht
     ·rw[Sv hc ej];exact Xq
    ·exact Xq
   |cons s p=>
    simp only[CX]at hp;obtain⟨k1,k2,k3⟩:=hp;simp only[E6]at hg;split at hg
    case h_2=>cases hg
    rename_i r' x hcx;rw[hcx]at k3;dsimp only at k3;simp only[fb,hcx,AIm,AIX]at hs;obtain⟨x',hs1,row2,wG,rfl⟩:=hs;rw[bt k1];rw[bt k1]at same;split
    ·rename_i e
     rw[AIF e]at same;rw[e]at Xq;by_cases ej:s'.j=s.j
     ·rw[ej]at Xq⊢
      rw[hcx]at Xq;simp only[AIK,AKo,Ty.sl.injEq]at Xq;obtain⟨rfl,Xq⟩:=Xq;obtain rfl:=ALA Xq;obtain⟨m1,m2⟩:=dN ht k3 hg hi hc hs1 g3 q' zs n0;exact⟨x',(Q3 wG).1,m1,m2⟩
     ·exact same (by rw[Sv wG ej];exact Xq)
    ·rename_i e
     rw[AIU e]at same;exact same Xq
  obtain⟨x1,e1,e2,e3⟩:=key;rw[e1];exact⟨⟨by omega,g2,e2⟩,e3⟩
theorem kX{w w':World}{B:Nat→Prop}(Un:∀A,w'.cell? A=w.cell? A∨ ∃v,w'.cell? A=some v∧isSlice v=false):∀{p:List dK} {r:Ty} {h:Value} {rows:List r.D} {hh:Value},
  Rd w' B (.sl r) [h] rows→CX r rows p→HP w h p=some hh→HP w' h p=some hh
 |[],_,h,_,hh,_,_,e=>by rw[CE]at e⊢;exact e
 |s::p,r,h,rows,hh,hr,hp,e=>by
  simp only[CX]at hp;obtain⟨hi,Mm,hp⟩:=hp;simp only[Rd]at hr;obtain⟨a,cap,e1,_,hr⟩:=hr;obtain rfl:=(List.cons.inj e1).1;rcases hr with hr|⟨b,o,rfl,hb,hr⟩
  ·omega
  obtain⟨cs,hl,hc,hrow⟩:=hr s.i _ (Nj hi);split at hp
  case h_2=>exact hp.elim
  rename_i q x Xq;obtain⟨v,hv,hrv⟩:=Ye hrow Xq;have hcv:=hc _ _ hv;rw[←Mm]at hcv;simp only[HP]at e⊢;split at e
  case h_2=>cases e
  rename_i v0 hv0;rcases Un ⟨b,o+s.i*s.sz+s.j,none⟩with h1|⟨u,h1,h2⟩
  ·rw[h1,hv0]
   rw[h1,hv0]at hcv;cases hcv;exact kX Un hrv hp e
  ·rw[hcv]at h1
   cases h1;simp only[Rd]at hrv;obtain⟨_,_,e2,_⟩:=hrv;simp only[AK_,AL0]at e2;subst e2;simp[isSlice]at h2
theorem tJ{E E':Env}{w w':World}{vw vw':List Bx}{b d d':Nat}{r:Ty}{rows CC:List r.D}(k:PI E w vw E' w' (vw'.set b .dead))(hb:vw[b]? =some (.sl d r rows))(qb:vw'[b]? =some (.sl d' r CC))(hl:CC.length=rows.length)
  (hh:E'.GQ b=E.GQ b) {x:AV} {v:Value} (h:VR E w vw x v):VR E' w' vw' (HX b x) v:=by
 have h1:=EW k h;have V4:∀{b'},b'≠b→(vw'.set b .dead)[b']? =vw'[b']?:=fun e=>AJo (fun h=>e h.symm)
 cases x with
 |v t x=>exact h1
 |sl s r x=>exact h1
 |nil=>exact h1
 |GA c j=>exact⟨by simpa using h1.1,h1.2⟩
 |K4 s r x j=>exact h1
 |fn f Hg=>exact⟨fun c hc=>by simpa using h1.1 c hc,h1.2⟩
 |kJ f rows=>exact h1
 |oX=>exact h1
 |undef=>trivial
 |ref c p=>
  cases p with
  |nil=>
   simp only[HX];by_cases e:c=b
   ·subst e
    simp only[VR,hb,qb]at h⊢;refine⟨h.1,by simp[CX],⟨_,rfl⟩,?_⟩;rw[CE,hh,←CE (w:=w) (h:=E.GQ c)];exact h.2.2.2
   ·simp only[VR,V4 e]at h1⊢;exact h1
  |cons s p=>
   simp only[HX];split
   ·trivial
   ·rename_i e
    simp only[VR,V4 e]at h1⊢;exact h1
 |XT c p off n=>
  cases p with
  |nil=>
   simp only[HX];by_cases e:c=b
   ·subst e
    simp only[VR,hb,qb]at h⊢;obtain⟨h0,_,q,ys,a,len,cap,e1,e2,e3,e4⟩:=h;simp only[E6,AIK,AKo]at e1;obtain⟨rfl,e1⟩:=e1;obtain rfl:=ALA e1;refine⟨h0,by simp[CX],r,CC,a,len,cap,rfl,by rw[hl];exact e2,?_,e4⟩;rw[CE,hh,←CE (w:=w) (h:=E.GQ c)];exact e3
   ·simp only[VR,V4 e]at h1⊢;exact h1
  |cons s p=>
   simp only[HX];split
   ·trivial
   ·rename_i e
    simp only[VR,V4 e]at h1⊢;exact h1
 |HW c p i sz j=>
  cases p with
  |nil=>
   simp only[HX];by_cases e:c=b
   ·subst e
    simp only[VR,hb,qb]at h⊢;obtain⟨h0,_,q,ys,bb,o,len,cap,e1,e2,e3,e4⟩:=h;simp only[E6,AIK,AKo]at e1;obtain⟨rfl,e1⟩:=e1;obtain rfl:=ALA e1;refine⟨h0,by simp[CX],r,CC,bb,o,len,cap,rfl,by rw[hl];exact e2,?_,e4⟩;rw[CE,hh,←CE (w:=w) (h:=E.GQ c)];exact e3
   ·simp only[VR,V4 e]at h1⊢;exact h1
  |cons s p=>
   simp only[HX];split
   ·trivial
   ·rename_i e
    simp only[VR,V4 e]at h1⊢;exact h1
theorem uc{E E':Env}{w w':World}{vw vw':List Bx}{b:Nat}(k:∀x v,VR E w vw x v→VR E' w' vw' (HX b x) v){x:XV}{v:Value}(h:XR E w vw x v):XR E' w' vw' (ko b x) v:=by
 cases x with
 |c x=>exact k x v h
 |agg l=>
  obtain⟨vs,rfl,TE⟩:=h;exact⟨vs,rfl,Bw.I7 _ k TE⟩
 |Kv l=>
  obtain⟨vs,rfl,TE⟩:=h;refine⟨vs,rfl,Bw.I7 _ (fun x v hx=> ?_) TE⟩;cases x with
  |inl x=>exact k x v hx
  |inr q=>
   obtain⟨us,rfl,hus⟩:=hx;exact⟨us,rfl,Bw.I7 _ k hus⟩
end Go.Fw
end
section
namespace Go.Fw
theorem hO{w:World}{vw:List Bx}{E:Env}{bx:List Bx}{G:AB1}(h:CR E w vw bx G)(hw:Di bx vw){d:Nat}(hd:1≤d){q:Ty}{old:q.D}{j:Nat}{x:XV}{v:Value}(hv:XR E w vw x v){Vl:q.D}{NG:List Bx}{d':Nat}
  (e:gE d q old j x bx=some (Vl,NG,d')):1≤d'∧d'≤d∧ ∃E' F,FG E w vw bx G E' NG F∧
   ((j=0∧x.plain=false∧Ow w E'.S (d'-1) q v.cells.toList Vl F)∨(∃t y,v.cells.toList=[v]∧Ow w E'.S (d'-1) t [v] y F∧Cq q j old t y=some Vl∧(x.plain=true→t.scalar=true∧isSlice v=false))):=by
 unfold gE at e;split at e
 ·rename_i l
  split at e
  case isFalse=>cases e
  rename_i hj;obtain⟨vs,rfl,TE⟩:=hv;obtain⟨h1,h2,E',F,h3,h4⟩:=VD h hw hd TE e;exact⟨h1,h2,E',F,h3,.inl ⟨hj,rfl,h4⟩⟩
 ·rename_i x
  split at e
  case h_2=>cases e
  rename_i t y0 hc;simp only[AIm,AIX,ALD]at e;obtain⟨⟨y,aH,d1⟩,e1,row,e2,rfl,rfl,rfl⟩:=e;dsimp only at e2;have W4:VR E w vw x v:=hv;have hk:x.known=true:=by cases x<;>simp_all[AV.known,Xs]
  obtain⟨h1,h2,E',F,h3,h4⟩:=WC h hw hd W4 e1;refine⟨h1,h2,E',F,h3,.inr ⟨t,y,by rw[(kh W4 hk).2],h4,e2,fun hp=> ?_⟩⟩;cases x with
  |v u z=>
   simp only[Xs,AIX,ALD]at e1;obtain⟨z',e3,_⟩:=e1;obtain⟨rfl,_⟩:=F_ e3;obtain⟨hs,hr⟩:=W4;refine⟨hs,?_⟩;cases u<;>simp_all[Ty.scalar,Rd]<;>rfl
  |_=>simp[XV.plain]at hp
 ·cases e
theorem iG{f:AV→AV}{bx:List Bx}{b d:Nat}{r:Ty}{rows:List r.D}:(bx.set b (.sl d r rows)).map (Bx.map f)=(bx.map (Bx.map f)).set b (.sl d r rows):=by
 rw[List.map_set];rfl
theorem vA{f:AV→AV}{bx:List Bx}{n d:Nat}{r:Ty}{rows:List r.D}(h:(bx.map (Bx.map f))[n]? =some (.sl d r rows)):bx[n]? =some (.sl d r rows):=by
 rw[ALC,AIX]at h;obtain⟨B,h1,h2⟩:=h;cases B with
 |mem cs=>simp[Bx.map]at h2
 |sl d' r' CC=>rw[h1];exact congrArg some h2
 |dead=>simp[Bx.map]at h2
theorem ju{E:Env}{σ:St}{a:Act}{w:World}(h:Rel E σ a w){b i sz j:Nat}{p:List dK}{va v:Value}(hva:VR E w σ.bx (.HW b p i sz j) va){x:XV}(hv:XR E w σ.bx x v)(h1c:∀u∈v.cells.toList,u.oneCell' =true)
  {σ':St} (e:Zy σ (.c (.HW b p i sz j)) x=some σ'):
  ∃bb oo E',va= .pointer (some ⟨bb,oo,none⟩)∧w.there bb oo v.cells.toList.length∧Rel E' σ' a (w.setCells bb oo v.cells.toList)∧Nx [b] E σ.bx w E' σ'.bx (w.setCells bb oo v.cells.toList)∧σ'.tm.length=σ.tm.length:=by
 simp only[Zy]at e;split at e
 case h_2=>cases e
 rename_i d r rows hb;split at e
 case isFalse=>cases e
 rename_i sP;simp only[AIm]at e;obtain⟨⟨q,ys⟩,hg,e⟩:=e;dsimp only at e;split at e
 case isFalse=>cases e
 rename_i Mm;simp only[AIm,AIX]at e;obtain⟨⟨Vl,VP,d2⟩,e1,CC,e2,e3⟩:=e;dsimp only at e1 e2 e3;have st:=h.bx.st;simp only[VR,hb]at hva;obtain⟨_,hp,q1,ys1,bb,o,len,cap,g1,hi,g3,rfl⟩:=hva;rw[hg]at g1;simp only[AIK,AKo]at g1;obtain⟨rfl,g1⟩:=g1;obtain rfl:=ALA g1;have Dj:=(AIE.1 hb).1;obtain⟨Gb,⟨hd1,ho⟩,hB⟩:=h.bx.take hb;have Z_:Di (σ.bx.set b .dead) σ.bx:=fun n B hn=>by
  by_cases en:n=b
  ·subst en
   rw[AKW Dj]at hn;exact .inl (by simpa using hn.symm)
  ·rw[AJo (fun h=>en h.symm)]at hn
   exact .inr hn
 obtain⟨hd2,hd3,E1,Fx,k1,hrow⟩:=hO hB Z_ (by omega) hv e1;obtain⟨A,W,pG,ho2⟩:=Hr (d:=d2+p.length) (by omega) ho;have Sm:=k1.boxes.perm (G':=(Fx++A)++W++[]) (by
  rw[AKb,AKb,AIg];exact AK6 _ pG)
 obtain⟨hle,hB3⟩:=Sm.share;simp only[AKb]at hB3
 generalize hE3:({ E1 with S:=fun c=>E1.S c∨c∈W,T:=fun c=>E1.T c∨c∈W }:Env)=E3 at hle hB3
 have du:Le E E3:=k1.le.trans hle;have ho3:Ow w E3.S (d2+p.length) (.sl r) [E.GQ b] rows A:=DB (fun c hc=>by
  subst hE3;exact hc.imp (k1.le.S c) id) (fun _ _=>rfl) (fun _ _=>rfl) ho2
 obtain⟨h',F1,F2,m1,m2,m3,m4⟩:=iC ho3 hp hg (by omega);rw[g3]at m1;cases m1;obtain⟨m,rfl⟩:∃m,d2=m+1:=⟨d2-1,by omega⟩;rw[show m+1+p.length-p.length=m+1 by omega]at m2 m4;simp only[Nat.add_sub_cancel]at hrow;obtain⟨b1,o1,arr,ty,fr,cs,G,R,n1,n2,n3,n4,n5,n6,n7,n8,n9⟩:=lP m2 hi;simp only[AIK,Addr.mk.injEq,AL0]at n1;obtain⟨rfl,rfl⟩:=n1;subst Mm;have hAp:A.Perm (G++(bb::R)++F2):=m3.trans (n8.append_right F2);obtain⟨Fs,hFs1,hFs2⟩:=hB3;have hbA:bb∈A:=hAp.mem_iff.2 (by simp);have Rg: ¬E3.T bb:=hFs2.free bb (by simp[hbA]);have gX: ¬E3.S bb:=fun hc=>Rg (hFs2.st bb hc)
 have nd:(Fx++(G++(bb::R)++F2)).Nodup:=(AK6 Fx hAp).nodup_iff.1 (AJq.1 hFs2.nodup).2.1;have hnx:bb∉Fx:=fun hc=>(AJq.1 nd).2.2 bb hc bb (by simp) rfl
 have hnG:bb∉G:=fun hc=>(AJq.1 (AJq.1 (AJq.1 nd).2.1).1).2.2 bb hc bb (by simp) rfl
 have hnR:bb∉R:=(ANm.1 (AJq.1 (AJq.1 (AJq.1 nd).2.1).1).2.1).1;have hn2:bb∉F2:=fun hc=>(AJq.1 (AJq.1 nd).2.1).2.2 bb (by simp) bb hc rfl
 have Xp:j+v.cells.toList.length≤q.n:=by
  rcases hrow with⟨rfl,_,ho4⟩|⟨t,y,zW,ho4,RI,_⟩
  ·rw[Sr ho4];omega
  ·rw[zW]
   obtain⟨_,y0,hc0⟩:=Q3 RI;obtain⟨u,_,_,hu,_⟩:=YP n7 hc0;have:=(AIE.1 hu).1;simp;omega
 have Ve:o+i*q.n+j+v.cells.toList.length≤arr.size:=by omega
 let w':=w.setCells bb (o+i*q.n+j) v.cells.toList
 have V4:∀c,c≠bb→w'.heap[c]? =w.heap[c]?:=fun c hc=>Iz _ _ _ _ _ hc
 have ix:∀c,E3.S c→w'.heap[c]? =w.heap[c]?:=fun c hc=>V4 c (fun e=>gX (e▸hc))
 have qb:=IM v.cells.toList (o+i*q.n+j) w bb arr ty fr n2;have Un:∃W0 G' D0,W0.length=q.n∧B7 w' bb (o+i*q.n) W0∧Ow w' E3.S m q W0 Vl G'∧(Fx++G).Perm (G'++D0):=by
  rcases hrow with⟨rfl,_,ho4⟩|⟨t,y,zW,ho4,RI,_⟩
  ·refine⟨v.cells.toList,Fx,G,Sr ho4,Q7 n2 Ve,DB (fun c hc=>hle.S c hc) (fun c hc=>V4 c (fun e=>gX (e▸hle.S c hc))) (fun c hc=>V4 c (fun e=>hnx (e▸hc))) ho4,AOS _⟩
  ·obtain⟨_,y0,hc0⟩:=Q3 RI
   obtain⟨u,K1,K2,z1,z2,z3,z4⟩:=YP n7 hc0;have ANY:bb∉K2:=fun hc=>hnG (z3.mem_iff.2 (by simp[hc]))
   obtain⟨F',f1,f2⟩:=z4 w' E3.S v y Fx Vl (fun _ hc=>hc) ix (fun c hc=>V4 c (fun e=>ANY (e▸hc)))
    (DB (fun c hc=>hle.S c hc) (fun c hc=>V4 c (fun e=>gX (e▸hle.S c hc))) (fun c hc=>V4 c (fun e=>hnx (e▸hc))) ho4) RI
   refine⟨cs.set j v,F',K1,by simpa using n5,fun x u' hx=> ?_,f2,?_⟩
   ·rw[ALz]at hx
    split at hx
    ·rename_i ejx
     subst ejx;split at hx
     ·cases hx
      have:=Q7 (w:=w) (b:=bb) (o:=o+i*q.n+j) (vs:=v.cells.toList) n2 Ve 0 v (by rw[zW];rfl);simpa using this
     ·cases hx
    ·rename_i ejx
     have hold:=n6 x u' hx;rw[J9 n2]at hold;rw[J9 qb,SV Ve,AIU (fun hh=>by rw[zW]at hh;simp only[AJ0,AKu]at hh;omega),hold]
   ·refine(AK6 Fx z3).trans ?_
    refine List.Perm.trans ?_ (f1.symm.append_right K1)
    rw[AIg];exact AK6 _ AK7
 obtain⟨W0,G',D0,c1,c2,c3,c4⟩:=Un;obtain⟨dM,f1,f2⟩:=n9 w' E3.S (ET arr (o+i*q.n+j) v.cells.toList) W0 Vl G' (fun _ hc=>hc) ix (fun c hc=>V4 c (fun e=>hnR (e▸hc))) qb (IL _ _ _) (fun k hk=>by
  rw[SV Ve,AIU (by omega)]) c1 c2 c3
 obtain⟨F',f3,f4⟩:=m4 w' E3.S (ys.set i Vl) dM CC (fun _ hc=>hc) ix (fun c hc=>V4 c (fun e=>hn2 (e▸hc))) f2 e2;have dZ:(Fx++A).Perm (F'++D0):=by
  have p1:F'.Perm (G'++(bb::R)++F2):=f3.trans (f1.append_right F2);refine(AK6 Fx hAp).trans (List.Perm.trans ?_ (p1.symm.append_right D0))
  classical
  rw[AOQ];intro c;have h4:=(AOQ.1 c4) c;simp only[List.count_append]at h4⊢;omega
 have ALy:bb∈F':=(f3.trans (f1.append_right F2)).mem_iff.2 (by simp);have hB4:CR E3 w σ.bx VP F':=by
  have:CR E3 w σ.bx VP (F'++D0):=CR.perm (G:=Fx++A) ⟨Fs,hFs1,hFs2⟩ dZ;exact this.drop
 have dL:VP.length=σ.bx.length:=by rw[k1.len];simp
 have AIR:VP[b]? =some .dead:=by
  obtain⟨B,hB⟩:∃B,VP[b]? =some B:=⟨_,AIH (by omega)⟩;rcases k1.within b B hB with e|e
  ·rw[hB,e]
  ·rw[AKW Dj]at e;rw[hB];exact e.symm
 have hrl:CC.length=rows.length:=iP hg (by simp) e2;have kT:∀E0,Le E0 E3→FG E0 w σ.bx σ.bx [] E3 VP (Fx++A):=fun E0 hl=>⟨hl,dL,fun n B hn=>by
  rcases k1.within n B hn with e|e
  ·exact .inl e
  ·exact(Z_ n B e),⟨Fs,hFs1,by simpa using hFs2⟩⟩
 have Xt:∀n,E3.GQ n=E.GQ n:=fun n=>by rw[du.GQ]
 have hww:∀c,c<w.heap.size→c∉Fx++A→w'.heap[c]? =w.heap[c]?:=fun c _ hc=>V4 c (fun e=>hc (by rw[e];simp[hbA]))
 have base:Yg E w E3 w':=⟨du.T,du.S,du.Tof,du.qj,fun c hc=>V4 c (fun e=>Rg (e▸du.T c hc)),(Ca _ _ _ _).os,(Ca _ _ _ _).tape,(Ca _ _ _ _).output,(Ca _ _ _ _).size⟩;have finish:∀(f:AV→AV) (g:XV→XV),(∀E0,Le E0 E3→(∀c,E0.S c→E0.T c)→ ∀x v,VR E0 w σ.bx x v→VR E3 w' ((VP.map (Bx.map f)).set b (.sl (m+1+p.length) r CC)) (f x) v)→
   (∀x v,XR E w σ.bx x v→XR E3 w' ((VP.map (Bx.map f)).set b (.sl (m+1+p.length) r CC)) (g x) v)→
   Rel E3 { tm:=σ.tm.map g,bx:=(VP.map (Bx.map f)).set b (.sl (m+1+p.length) r CC) } a w':=by
  intro f g hf hg;refine⟨h.Kk,Bw.I7 _ hg h.tm,?_⟩;have hT:=hB4.AKm (E':=E3) (w':=w') (vw':=(VP.map (Bx.map f)).set b (.sl (m+1+p.length) r CC)) f (hf E3 (Le.refl _) hFs2.st) (fun _ h=>h) (fun _ _=>rfl) (fun _ _=>rfl) (fun c hc _=>V4 c (fun e=>by
    rcases hc with hc|hc
    ·exact gX (e▸hc)
    ·exact hc.2 (by rw[e];exact ALy))) (fun F hF=>⟨hF.nodup,hF.free,fun c hc=>by rw[FZ];exact hF.lt c hc,hF.st,fun c hc=>by rw[FZ];exact hF.ZB c hc⟩)
  refine CR.put (F:=F') (G:=[]) (by simpa using hT) (by rw[ALC,AIR];rfl) ⟨by omega,?_⟩;rw[Xt];exact f4
 have AAd:∀f:AV→AV,Nx [b] E σ.bx w E3 ((VP.map (Bx.map f)).set b (.sl (m+1+p.length) r CC)) w':=fun f=>⟨base,by simp[dL],fun n _=>⟨by rw[du.GB],Xt n⟩,fun n hn=>by
  have ir:n≠b:=fun e=>by subst e;rw[hb]at hn;cases hn
  have l9:=(AIE.1 hn).1;rw[AJo (fun e=>ir e.symm),ALC];obtain⟨B,hB⟩:∃B,VP[n]? =some B:=⟨_,AIH (by omega)⟩;have hBd:B= .dead:=by
   rcases(kT E du).within n B hB with e|e
   ·exact e
   ·rw[hn]at e;cases e;rfl
  rw[hB,hBd];rfl,fun n B B' ir hB Oa qk=>by
  simp at ir;have l9:=(AIE.1 hB).1;rw[AJo (fun e=>ir e.symm),ALC]at Oa;obtain⟨B2,Sm⟩:∃B2,VP[n]? =some B2:=⟨_,AIH (by omega)⟩;rw[Sm]at Oa;have Oa:Bx.map f B2=B':=by simpa using Oa
  have hBB:B2=B:=by
   rcases(kT E du).within n B2 Sm with e|e
   ·subst e;exact absurd Oa.symm qk
   ·rw[hB]at e;cases e;rfl
  subst hBB;refine⟨?_,fun c hc=>V4 c (fun e=> ?_)⟩
  ·subst Oa
   cases B2 with
   |mem cs=>trivial
   |sl d r rows=>rfl
   |dead=>exact absurd rfl qk
  ·have hF:Fs[n]? =some (Fs[n]'(by have:=(AIE.1 Sm).1;rw[hFs1.1];exact this)):=AIH _
   have ZL:oJ E3 w n B2 c:=by
    cases B2 with
    |mem cs=>simp only[oJ]at hc⊢;rw[du.GB];exact hc
    |sl d r rows=>simp only[oJ]at hc⊢;rw[Xt];exact hc
    |dead=>exact hc
   rcases YX (hFs1.2 n B2 _ Sm hF) ZL with hs|hs
   ·exact gX (e▸hs)
   ·exact(AJq.1 hFs2.nodup).2.2 c (AK9.2 ⟨_,AKh hF,hs⟩) bb (by simp[hbA]) e⟩
 refine⟨bb,o+i*q.n+j,E3,rfl,bO (k:=0) n2 Ve n3,?_,?_,?_⟩
 ·split at e3
  ·rename_i AI4
   have h0:∀E0,Le E0 E3→(∀c,E0.S c→E0.T c)→PI E0 w σ.bx E3 w' (VP.set b (.sl (m+1+p.length) r CC)):=by
    intro E0 hl st0;refine Wp b (kT E0 hl) st0 (by simp[dL]) (fun n d r rows hn _ hq=>by
      rw[AJo (fun e=>hn e.symm)]at hq;exact hq) (fun _ _=>rfl) (fun _ _=>rfl) rfl rfl hww (fun d0 r0 Na hq=> ?_)
    rw[AKW (by omega)]at hq;simp only[AIK,Bx.sl.injEq]at hq;obtain⟨rfl,rfl,hq⟩:=hq;obtain rfl:=ALA hq;refine⟨d,rows,hb,fun p' hp' q' zs n0=> ?_⟩;rcases hrow with⟨_,hpf,_⟩|⟨t,y,zW,ho4,RI,hsc⟩
    ·rw[AI4]at hpf;cases hpf
    obtain⟨hs1,wG⟩:=hsc AI4;have hk:=dN hs1 hp hg hi RI e2 hp' q' zs n0;refine⟨hk.1,hk.2,fun hh hhe=> ?_⟩;rw[Xt];rw[←hl.GQ,Xt]at hhe;refine kX (fun Ad=> ?_) (Uh f4) hk.1 hhe;by_cases eA:Ad.block=bb∧Ad.spot=none∧Ad.off=o+i*q.n+j
    ·right
     obtain⟨ab,ao,asp⟩:=Ad;simp only at eA;rw[eA.1,eA.2.1,eA.2.2];refine⟨v,?_,wG⟩;have:=Q7 (w:=w) (b:=bb) (o:=o+i*q.n+j) (vs:=v.cells.toList) n2 Ve 0 v (by rw[zW];rfl);simpa using this
    ·left
     refine World.cell?_setCells_out bb v.cells.toList (o+i*q.n+j) w Ad (fun q1 q2=> ?_)
     rw[zW];simp only[AJ0,AKu];have:Ad.off≠o+i*q.n+j:=fun q3=>eA ⟨q1,q2,q3⟩
     omega
   have:=finish id id (fun E0 hl st0 x v hx=>by rw[Vc];exact EW (h0 E0 hl st0) hx) (fun x v hx=>by rw[Vc];exact L9 (h0 E du st) hx);rw[Vc,List.map_id]at this;rw[←e3];exact this
  ·have h0:∀E0,Le E0 E3→(∀c,E0.S c→E0.T c)→ ∀x v,VR E0 w σ.bx x v→VR E3 w' ((VP.map (Bx.map (HX b))).set b (.sl (m+1+p.length) r CC)) (HX b x) v:=by
    intro E0 hl st0 x v hx;have keep:PI E0 w σ.bx E3 w' (((VP.map (Bx.map (HX b))).set b (.sl (m+1+p.length) r CC)).set b .dead):=by
     refine Wp b (kT E0 hl) st0 (by simp[dL]) (fun n d r rows hn _ hq=>by
      rw[AJo (fun e=>hn e.symm),AJo (fun e=>hn e.symm)]at hq;exact vA hq) (fun _ _=>rfl) (fun _ _=>rfl) rfl rfl hww (fun d0 r0 Na hq=> ?_)
     rw[AKW (by simp;omega)]at hq;cases hq
    exact tJ keep hb (by rw[AKW (by simp;omega)]) hrl (by rw[hl.GQ]) hx
   have:=finish (HX b) (ko b) h0 (fun x v hx=>uc (h0 E du st) hx);rw[←e3];simp only[St.qA];rw[dQ,iG];exact this
 ·rw[←e3]
  split
  ·have:=AAd id
   rw[Vc]at this;exact this
  ·simp only[St.qA]
   rw[dQ,iG];exact AAd _
 ·rw[←e3]
  split<;>simp[St.qA]
end Go.Fw
end
section
namespace Go.Fw
theorem fH{w w':World}{B B':Nat→Prop}:∀{r:Ty} {cs:List Value} {x:r.D},r.flat=true→Rd w B r cs x→Rd w' B' r cs x
 | .cons c r,cs,x,h,hr=>by
  simp only[Ty.flat,AIo]at h;simp only[Rd]at hr⊢;obtain⟨v,l,rfl,h1,h2⟩:=hr;exact⟨v,l,rfl,fH h.1 h1,fH h.2 h2⟩
 | .unit,_,_,_,hr=>by simpa only[Rd]using hr
 | .int k,_,_,_,hr=>by simpa only[Rd]using hr
 | .bool,_,_,_,hr=>by simpa only[Rd]using hr
 | .str,_,_,_,hr=>by simpa only[Rd]using hr
 | .sl q,_,_,h,_=>by simp[Ty.flat]at h
theorem YC{w:World}{S:Nat→Prop}{d:Nat}:∀{r:Ty} {cs:List Value} {y:r.D} {F:AB1},r.flat=true→Ow w S d r cs y F→F=[]
 | .int k,_,_,_,_,h=>by simp only[Ow]at h;exact h.2
 | .bool,_,_,_,_,h=>by simp only[Ow]at h;exact h.2
 | .str,_,_,_,_,h=>by simp only[Ow]at h;exact h.2
 | .unit,_,_,_,_,h=>by simp only[Ow]at h;exact h.2
 | .cons c r,_,_,_,hf,h=>by
  simp only[Ty.flat,AIo]at hf;simp only[Ow]at h;obtain⟨v,l,F1,F2,_,rfl,h1,h2⟩:=h;rw[YC hf.1 h1,YC hf.2 h2];rfl
 | .sl q,_,_,_,hf,_=>by simp[Ty.flat]at hf
theorem mL{w w':World}{S S':Nat→Prop}{d d':Nat}{r:Ty}(hr:r.flat=true){cs:List Value}{y:r.D}{F:AB1}(h:Ow w S d r cs y F):F=[]∧cs.length=r.n∧Ow w' S' d' r cs y []:=
 ⟨YC hr h,Sr h,aS hr (fH (B':=fun _=>False) hr (Uh h))⟩
theorem bK:∀{r:Ty} {j:Nat} {x:r.D} {t:Ty} {y:t.D},r.flat=true→Am r j x=some ⟨t,y⟩→t.flat=true
 | .cons c r,0,x,t,y,h,e=>by
  simp only[Ty.flat,AIo]at h;simp only[Am,AIK,AKo]at e;obtain⟨rfl,_⟩:=e;exact h.1
 | .cons c r,j+1,x,t,y,h,e=>by
  simp only[Ty.flat,AIo]at h;simp only[Am]at e;exact bK h.2 e
 | .unit,_,_,_,_,_,e=>by simp[Am]at e
 | .int k,0,x,t,y,_,e=>by simp only[Am,AIK,AKo]at e;obtain⟨rfl,_⟩:=e;rfl
 | .bool,0,x,t,y,_,e=>by simp only[Am,AIK,AKo]at e;obtain⟨rfl,_⟩:=e;rfl
 | .str,0,x,t,y,_,e=>by simp only[Am,AIK,AKo]at e;obtain⟨rfl,_⟩:=e;rfl
 | .sl _,_,_,_,_,h,_=>by simp[Ty.flat]at h
 | .int _,_+1,_,_,_,_,e=>by simp[Am]at e
 | .bool,_+1,_,_,_,_,e=>by simp[Am]at e
 | .str,_+1,_,_,_,_,e=>by simp[Am]at e
theorem rD{r:Ty}(hr:r.flat=true){rows:List r.D}:∀{p:List dK},CX r rows p→p=[]
 |[],_=>rfl
 |s::p,h=>by
  simp only[CX]at h;obtain⟨_,_,h⟩:=h;exfalso;cases hc:Am r s.j (rowAt r rows s.i)with
  |none=>rw[hc]at h;exact h
  |some tx=>
   obtain⟨t,x⟩:=tx;have hf:=bK hr hc;rw[hc]at h;cases t<;>simp_all[Ty.flat]
theorem flatten_nil{l:List AB1}(h:∀x∈l,x=[]):l.flatten=[]:=by
 induction l with
 |nil=>rfl
 |cons x l ih=>
  rw[ALO,h x (by simp),ih (fun y hy=>h y (by simp[hy]))];rfl
theorem sF{E:Env}{σ:St}{a:Act}{w:World}(h:Rel E σ a w){b d off n:Nat}{r:Ty}{rows:List r.D}(hb:σ.bx[b]? =some (.sl d r rows))(hr:r.flat=true)(hgd:r.ks=true)(hk:0<r.n)(hl:off+n≤rows.length)(hn:0<n):
  ∃bb o cap,E.GQ b= .slice (some ⟨bb,o,none⟩) rows.length cap∧rows.length≤cap∧w.there bb (o+off*r.n) (n*r.n)∧
   Rel E { σ with bx:=σ.bx.set b (.sl d r ((rows.take off++List.replicate n r.z)++rows.drop (off+n))) } a (w.setCells bb (o+off*r.n) (List.replicate n (EX r)).flatten)∧
   Nx [b] E σ.bx w E (σ.bx.set b (.sl d r ((rows.take off++List.replicate n r.z)++rows.drop (off+n)))) (w.setCells bb (o+off*r.n) (List.replicate n (EX r)).flatten):=by
 have st:=h.bx.st;obtain⟨F,⟨hd,ho⟩,hB⟩:=h.bx.take hb;simp only[AKb]at hB;have Dj:=(AIE.1 hb).1;obtain⟨d',rfl⟩:∃m,d=m+1:=⟨d-1,by omega⟩;simp only[Ow]at ho;obtain⟨ad,cap,hh,vj,ho⟩:=ho;simp only[AK_,AL0]at hh;rcases ho with⟨rfl,_⟩|⟨bb,o,arr,ty,fr,Fs,rfl,ha,Mm,hu,rfl,hFl,W_⟩
 ·omega
 have hFn:List.flatten Fs=[]:=flatten_nil fun x hx=>by
  obtain⟨i,hi,hxi⟩:=ALr hx;obtain⟨cs,_,_,h3⟩:=W_ i (rows[i]'(by omega)) x (AIH _) (by rw[AIH hi,hxi]);exact(mL (w':=w) (S':=E.S) (d':=0) hr h3).1
 rw[hFn]at hB;have hzl:(EX r).length=r.n:=Hk r;have hvl:((List.replicate n (EX r)).flatten).length=n*r.n:=by rw[Dt,hzl]
 have sy:(off+n)*r.n≤cap*r.n:=ALL _ (by omega);have hm2:(off+n)*r.n=off*r.n+n*r.n:=AL4 ..;have Ve:o+off*r.n+((List.replicate n (EX r)).flatten).length≤arr.size:=by omega
 generalize TE:(List.replicate n (EX r)).flatten=vs at hvl Ve
 refine⟨bb,o,cap,hh,vj,bO ha (by omega) hu,?_⟩;have Rg: ¬E.T bb:=hB.uO _ (by simp);have hB0:=hB;have V4:∀c,c≠bb→(w.setCells bb (o+off*r.n) vs).heap[c]? =w.heap[c]?:=fun c hc=>Iz _ _ _ _ _ hc
 have hw:∀c,c<w.heap.size→c∉[bb]→(w.setCells bb (o+off*r.n) vs).heap[c]? =w.heap[c]?:=fun c _ hc=>V4 c (by simpa using hc)
 have kT:FG E w σ.bx σ.bx [] E (σ.bx.set b .dead) [bb]:=⟨Le.refl _,by simp,fun n B hn=>by
  by_cases en:n=b
  ·subst en
   rw[AKW Dj]at hn;exact .inl (by simpa using hn.symm)
  ·rw[AJo (fun h=>en h.symm)]at hn
   exact .inr hn,by simpa using hB⟩
 generalize pt:(rows.take off++List.replicate n r.z)++rows.drop (off+n)=CC
 have ADb:CC.length=rows.length:=by
  rw[←pt];simp;omega
 have keep:PI E w σ.bx E (w.setCells bb (o+off*r.n) vs) (σ.bx.set b (.sl (d'+1) r CC)):=Wp b kT st (by simp) (fun n d r rows hn _ hq=>by
   rw[AJo (by omega)]at hq⊢;exact hq) (fun _ _=>rfl) (fun _ _=>rfl) rfl rfl hw (fun d1 r1 ACq hq=>by
   rw[AKW Dj]at hq;simp only[AIK,Bx.sl.injEq]at hq;obtain⟨rfl,rfl,hq⟩:=hq;obtain rfl:=ALA hq;refine⟨d'+1,rows,hb,fun p hp q ys hg=> ?_⟩;obtain rfl:=rD hr hp;simp only[E6,AIK,AKo]at hg;obtain⟨rfl,hg⟩:=hg;obtain rfl:=ALA hg;exact⟨by simp[CX],⟨CC,by simp[E6],ADb⟩,fun h' hh' =>hh'⟩)
 refine⟨⟨h.Kk,h.tm.imp fun _ _ hq=>L9 keep hq,?_⟩,⟨⟨fun _ h=>h,fun _ h=>h,fun _ h=> .inl h,fun _ h=> .inl h,fun c hc=>V4 c (fun e=>Rg (e▸hc)),(Ca _ _ _ _).os,(Ca _ _ _ _).tape,(Ca _ _ _ _).output,(Ca _ _ _ _).size⟩,by simp,fun _ _=>⟨rfl,rfl⟩,fun n hn=>by
  rw[AJo (fun e=>by subst e;rw[hb]at hn;cases hn)];exact hn,fun n B B' ir hB Oa qk=>by
  simp at ir;rw[AJo (fun e=>ir e.symm),hB]at Oa;cases Oa;refine⟨RC.refl qk,fun c hc=>V4 c (fun e=> ?_)⟩;obtain⟨Fs,⟨f1,f2⟩,f3⟩:=hB0;have Sm:(σ.bx.set b .dead)[n]? =some B:=by rw[AJo (fun e=>ir e.symm)];exact hB
  have hF:Fs[n]? =some (Fs[n]'(by have:=(AIE.1 Sm).1;omega)):=AIH _;rcases YX (f2 n B _ Sm hF) hc with hs|hs
  ·exact Rg (e▸st c hs)
  ·exact(AJq.1 f3.nodup).2.2 c (AK9.2 ⟨_,AKh hF,hs⟩) bb (by simp) e⟩⟩
 have hT:=hB.turn (E':=E) (w':=w.setCells bb (o+off*r.n) vs) (vw':=σ.bx.set b (.sl (d'+1) r CC)) (fun x v hq=>EW keep hq) (fun _ h=>h) (fun _ _=>rfl) (fun _ _=>rfl) (fun c hc _=>V4 c (fun e=>by
   rcases hc with hc|hc
   ·exact Rg (e▸st c hc)
   ·exact hc.2 (by simp[e]))) (fun F hF=>⟨hF.nodup,hF.free,fun c hc=>by rw[FZ];exact hF.lt c hc,hF.st,fun c hc=>by rw[FZ];exact hF.ZB c hc⟩)
 have ANU:gC E (w.setCells bb (o+off*r.n) vs) (σ.bx.set b (.sl (d'+1) r CC)) b (.sl (d'+1) r CC) [bb]:=by
  refine⟨hd,?_⟩;simp only[Ow];refine⟨_,cap,by rw[hh,ADb],by omega,.inr ⟨bb,o,ET arr (o+off*r.n) vs,ty,fr,List.replicate CC.length [],rfl,IM _ _ _ _ _ _ _ ha,by rw[IL];omega,by rw[IL];exact hu,by simp,by simp,fun i y G hy hG=> ?_⟩⟩;have hG':G=[]:=ALx (AKh hG);subst hG';have hil:i<rows.length:=by have:=(AIE.1 hy).1;omega
  by_cases XY:off≤i∧i<off+n
  ·have hyz:y=r.z:=by
    rw[←pt,AJI (by simp;omega),AKi (by simp;omega)]at hy;exact ALx (AKh hy)
   subst hyz;refine⟨EX r,hzl,fun j v hj=> ?_,au hgd⟩;have qq:j<r.n:=by have:=(AIE.1 hj).1;omega
   have e1:(i-off)*r.n=i*r.n-off*r.n:=Nat.sub_mul ..;have e2:off*r.n≤i*r.n:=ALL _ XY.1;have e3:(i-off+1)*r.n≤n*r.n:=ALL _ (by omega);rw[AL4,AOH]at e3;have:=Q7 ha Ve ((i-off)*r.n+j) v (by
    rw[←TE,KF (by rw[hzl];omega),hzl,Nat.mul_comm (i-off),Nat.mul_add_mod,AOL qq];exact hj)
   rw[show o+off*r.n+((i-off)*r.n+j)=o+i*r.n+j by omega]at this;exact this
  ·have hyo:rows[i]? =some y:=by
    rw[←pt]at hy;by_cases h1:i<off
    ·rw[AJI (by simp;omega),AJI (by simp;omega),List.getElem?_take,AIF h1]at hy
     exact hy
    ·rw[AKi (by simp;omega),ANq]at hy
     rw[←hy];congr 1;simp;omega
   obtain⟨cs,c1,c2,c3⟩:=W_ i y (Fs[i]'(by omega)) hyo (AIH _);obtain⟨_,c4,c5⟩:=mL (w':=w.setCells bb (o+off*r.n) vs) (S':=E.S) (d':=d') hr c3;refine⟨cs,c4,ZF c2 ha Ve (.inr ?_),c5⟩;by_cases h1:i<off
   ·have:(i+1)*r.n≤off*r.n:=ALL _ h1
    rw[AL4,AOH]at this;omega
   ·have:(off+n)*r.n≤i*r.n:=ALL _ (by omega)
    omega
 have:=CR.put (b:=b) (B:= .sl (d'+1) r CC) (F:=[bb]) (G:=[]) (by simpa using hT) (by rw[AKW Dj]) ANU;rw[AOE]at this;exact this
section
variable{Y:Type} {P:Program} {T:Hq} (hT:D4 P T) {o:Oper} {E:Env} {σ:St} {a:Act} {w:World} {k:K Y} {y:Y}
include hT
theorem pe(h:Rel E σ a w){c:Call}{x:XV}(ho:o.op= .call c)(hc:c.callee= .builtin .clear)(Gp:c.args.toList.map σ.ev=[x])(e:bl T c.argTypes σ x k=some y)
  (ALd:∀b p off n,x= .c (.XT b p off n)→GZ (fun _=>none) σ o.op=[b]):∃v w' E' xv σ',((execOp a.eval o).run P w= .ok (.value v) w'∨((execOp a.eval o).run P w= .ok .skip w'∧v=undef))∧Rel E' σ' a w'∧XR E' w' σ'.bx xv v∧
   Nx (GZ (fun _=>none) σ o.op) E σ.bx w E' σ'.bx w'∧σ'.tm.length=σ.tm.length∧k xv σ' =some y:=by
 obtain⟨o1,hargs',rfl⟩:=TK Gp;have XF:=h.ev o1;unfold bl at e;split at e
 case h_2=>cases e
 rename_i t b off n ht hx;rw[hx]at XF;rw[ALd b [] off n hx];split at e
 case h_2=>cases e
 rename_i d r rows hb;split at e
 case isFalse=>cases e
 rename_i V2;rw[AIo]at V2;obtain⟨V2,hr⟩:=V2;rw[AIo,AJJ]at hr;obtain⟨hr,hk⟩:=hr;obtain⟨el,ti,hu,N8,hs,hby,hrow⟩:=Lk hT V2;obtain⟨i,z,i1,i2,i3,i4,i5,hg⟩:=YN hT N8 hrow;have V0:VR E w σ.bx (.XT b [] off n) (a.eval o1):=XF;simp only[VR,hb]at V0;obtain⟨_,_,q,ys,ad,len,cap,hgp,hl,hh,hv⟩:=V0;simp only[E6,AIK,AKo]at hgp;obtain⟨rfl,hgp⟩:=hgp;obtain rfl:=ALA hgp;simp only[HP,AIK]at hh;by_cases hn:n=0
 ·subst hn
  have AJv:(rows.take off++List.replicate 0 r.z)++rows.drop (off+0)=rows:=by simp
  rw[AJv]at e;have RI:σ.bx.set b (.sl d r rows)=σ.bx:=by
   apply ANv;intro j;rw[ALz];split
   ·rename_i e1
    subst e1;rw[hb];simp[(AIE.1 hb).1]
   ·rfl
  rw[RI]at e;refine⟨.tuple #[],w,E,.c .undef,σ,.inl ?_,h,trivial,Nx.refl _ _ _ _,rfl,e⟩;have hz:∃a' c',a.eval o1= .slice a' 0 c':=⟨_,_,by rw[hv];rfl⟩;obtain⟨a',c',hz⟩:=hz;simp only[execOp,ho,resolve,hc,hargs',invoke,builtin,Sem.run_bind,Sem.run_pure,Result.andThen_ok,List.map_toArray,AN0,AOR,Builtin.clear_,ht,hz];cases a'<;>simp[A4 hu]
 ·obtain⟨bb,oo,cap',g1,g2,g3,g4,g5⟩:=sF h (d:=d) hb hr hg hk hl (by omega)
  rw[g1]at hh;simp only[Value.slice.injEq]at hh;obtain⟨rfl,rfl,rfl⟩:=hh;have W4:a.eval o1= .slice (some ⟨bb,oo+off*r.n,none⟩) n (cap'-off):=by
   rw[hv];unfold N5;rw[AIU (by omega)];simp[Addr.add]
  refine⟨.tuple #[],_,E,.c .undef,_,.inl ?_,g4,trivial,g5,rfl,e⟩;have hz:(Builtin.zeroCells z.cells n).toList=(List.replicate n (EX r)).flatten:=by
   unfold Builtin.zeroCells;have hzn:z.cells.size=(EX r).length:=by rw[←i5];simp
   have:=WY i5 n (fun hh=>by have:=Hk r;rw[hh]at this;simp at this;omega);rw[←hzn]at this;exact this
  have h1:∀v∈(List.replicate n (EX r)).flatten,v.oneCell' =true:=fun v hv=>by
   obtain⟨l,hl1,uB⟩:=AK9.1 hv;rw[ALx hl1]at uB;exact gm (w:=w) (S:=E.S) (d:=0) (au hg) v uB
  have hvl:((List.replicate n (EX r)).flatten).length=n*r.n:=by rw[Dt,Hk]
  have oP:=run_storeCells_cells (P:=P) bb (oo+off*r.n) (List.replicate n (EX r)).flatten 0 w (fun j hj=>by simpa using(g3 j (by omega)).1) (fun j hj=>by simpa using(g3 j (by omega)).2) h1;rw[ANB]at oP;obtain⟨n',rfl⟩:∃n',n=n'+1:=⟨n-1,by omega⟩;simp only[execOp,ho,resolve,hc,hargs',invoke,builtin,Sem.run_bind,Sem.run_pure,Result.andThen_ok,List.map_toArray,AN0,AOR,Builtin.clear_,ht,W4];simp[A4 hu,zeroValue,typeInfo,i1,i4,hz,oP]
end
end Go.Fw
end
