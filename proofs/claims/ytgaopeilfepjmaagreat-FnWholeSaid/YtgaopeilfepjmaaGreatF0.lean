/- The framework, part 1: a checked interpreter of the model's code over abstract states; no claim is made here. -/
import Derived.Calls
import Derived.Still
import Derived.Laws.World
import Derived.Laws.AppendOwn
import Derived.RowKit3
import Derived.Deep.MidRow
import Derived.Laws.StructEq
import Derived.Lib.ConvBytes
import Derived.Laws.BytesArg
import Derived.Tactics
import Derived.OrdersHeld
import Derived.ChangeArms
import Derived.ChangeOld
import Derived.DataReads
import Derived.Below
import Derived.Shelf.Spec.SlicesInsertGrow
import Derived.Shelf.Slices.Delete
set_option linter.unusedVariables false
set_option linter.unusedSimpArgs false
set_option linter.unusedSectionVars false
abbrev ACs:Type:=Int × Int × Bool × List UInt8 × Unit
abbrev AD5:Type:=List UInt8 × List Int × Bool × Unit
abbrev ADg:Type:=List Int × Bool × Int × Unit
abbrev ADr:Type:=Int × List UInt8 × Bool × Unit
abbrev ADo:Type:=Int × Int × List UInt8 × Unit
abbrev AC1:Type:=Unit × Int × Unit × Unit × Unit × Int × Unit × Unit × Unit × Unit × Bool × Unit
abbrev AAG:Type:=List Int
abbrev AD9:Type:=Int × Bool × Int × Int × Bool × List UInt8 × Unit
abbrev ABV:Type:=Int × Unit
abbrev ABS:Type:=Bool × Unit
abbrev ADU:Type:=Int × Int × Int × Int × List UInt8 × Unit
abbrev AA8:Type:=List Int × Int × Unit
abbrev AD6:Type:=Int × Int × Unit × Unit × Bool × Unit × Unit
abbrev ADX:Type:=List Int × Int × Int × Unit
abbrev ABW:Type:=Unit × Unit
abbrev ACQ:Type:=List Int × Unit
abbrev AAO:Type:=List Nat
abbrev ADl:Type:=Unit × Unit × Int × Unit
abbrev ADq:Type:=Unit × Int × Unit
abbrev ADe:Type:=Int × Int × Unit × Unit
abbrev ACN:Type:=Nat × Nat
abbrev ADi:Type:=Int × Unit × Unit
abbrev AD7:Type:=Int × Bool × Unit
abbrev ADj:Type:=Unit × List Int × Unit
abbrev ADd:Type:=Nat × List Nat
abbrev ABj:Type:=Int × Int × List Int × List ACs × Bool × List AAG × Unit
abbrev ACS:Type:=List ACs × List ACs × Int × Unit
abbrev ADP:Type:=Int × Int × List ADo × Unit
abbrev ACe:Type:=Int × List AD5 × Unit
abbrev AAJ:Type:=List ADr
abbrev AAS:Type:=List ADg
abbrev AA5:Type:=List ACs
abbrev ACX:Type:=List ADg × Int × Unit
abbrev AEJ:Type:=ADl × Bool × Unit
abbrev AB7:Type:=List AD5
abbrev AEL:Type:=AD6 × Bool × Unit
abbrev ADY:Type:=AD7 × Unit
abbrev ADT:Type:=ADq × Unit
abbrev AEO:Type:=AC1 × Bool × Unit
abbrev ADQ:Type:=List ADo
abbrev ADZ:Type:=ADX × Unit
abbrev AEU:Type:=ADi × Bool × Unit
abbrev AET:Type:=ADq × Bool × Unit
abbrev AES:Type:=ACs × Bool × Unit
abbrev AEQ:Type:=AC1 × Int × Unit
abbrev ADO:Type:=List ADU
abbrev ACY:Type:=ABV × Unit
abbrev ACq:Type:=List AD9
abbrev ADv:Type:=ADX × List Int × Unit
abbrev ADm:Type:=AD6 × Unit
abbrev ADx:Type:=ADe × Int × Unit
abbrev ABH:Type:=List Int × Int × List ACS × List Int × List ADg × Int × List ACe × List ABj × List ADP × List ADr × Bool × Unit
abbrev AAN:Type:=List ACS
abbrev AAX:Type:=List ACe
abbrev AA2:Type:=List ADP
abbrev AAw:Type:=List ABj
abbrev ADW:Type:=List Int × AA5 × List AAG × Unit
abbrev ADV:Type:=AA5 × AA5 × Unit
abbrev ADS:Type:=AEJ × Unit
abbrev ADc:Type:=AEL × Unit
abbrev ADb:Type:=AB7 × Unit
abbrev ADa:Type:=AAS × Unit
abbrev ADs:Type:=Unit × AA5 × Unit
abbrev ADf:Type:=ADQ × Unit
abbrev ADh:Type:=AEO × Unit
abbrev ADw:Type:=ADe × Unit × ADQ × Unit
abbrev ADp:Type:=AEQ × Unit
abbrev ADn:Type:=AES × Unit
abbrev ADu:Type:=AET × Unit
abbrev ADt:Type:=AEU × Unit
abbrev ADk:Type:=AA5 × Unit
abbrev ADC:Type:=AC1 × List Int × AAN × List Int × AAS × AAX × AAw × AA2 × AAJ × Unit
abbrev ADR:Type:=List Int × AAN × List Int × AAS × AAX × AAw × AA2 × AAJ × Unit
abbrev ADz:Type:=AC1 × List Int × AAN × Unit × AAS × AAX × AAw × AA2 × AAJ × List Int × Unit
abbrev ADy:Type:=AAN × AA5 × AA5 × Unit
abbrev AEX:=@List.getElem?_eq_getElem
abbrev AEY:=@Option.some.injEq
abbrev AEv:=@if_pos
abbrev AEw:=@Bool.eq_false_or_eq_true
abbrev AEx:=@Option.map_eq_some_iff
abbrev AEy:=@List.getElem?_eq_some_iff
abbrev AEz:=@Option.bind_eq_some_iff
abbrev AE1:=@Bool.and_eq_true
abbrev AE4:=@if_neg
abbrev AE6:=@Bool.false_eq_true
abbrev AE7:=@Bool.not_true
abbrev AE9:=@Option.bind_some
abbrev AFL:=@Int.toNat_natCast
abbrev AFM:=@cond_false
abbrev AFS:=@decide_eq_true_eq
abbrev AFU:=@Sigma.mk.injEq
abbrev AFX:=@List.nodup_append
abbrev AFj:=@List.getElem_mem
abbrev AFq:=@List.length_cons
abbrev AFy:=@List.getElem?_append_left
abbrev AF0:=@List.drop_eq_nil_of_le
abbrev AF5:=@List.append_nil
abbrev AF_:=@List.getElem?_append_right
abbrev AGD:=@List.mem_cons
abbrev AGJ:=@Bool.true_and
abbrev AGN:=@List.mem_of_getElem?
abbrev AGP:=@List.length_append
abbrev AGS:=@Nat.mul_le_mul_right
abbrev AGV:=@cond_true
abbrev AGX:=@Bool.not_eq_true
abbrev AGb:=@Bool.not_eq_false'
abbrev AGf:=@List.mem_append
abbrev AGh:=@Nat.le_refl
abbrev AGk:=@beq_eq_false_iff_ne
abbrev AGl:=@List.append_assoc
abbrev AGn:=@if_false
abbrev AGv:=@List.cons.injEq
abbrev AGw:=@List.eq_nil_of_length_eq_zero
abbrev AGx:=@List.pairwise_cons
abbrev AGy:=@eq_of_heq
abbrev AG0:=@Prod.mk.injEq
abbrev AG5:=@List.getElem?_map
abbrev AG6:=@List.length_nil
abbrev AHA:=@List.mem_flatten
abbrev AHB:=@List.getElem?_set_ne
abbrev AHD:=@List.getElem_of_mem
abbrev AHF:=@List.length_replicate
abbrev AHG:=@Nat.lt_of_lt_of_le
abbrev AHH:=@List.map_congr_left
abbrev AHI:=@decide_eq_false
abbrev AHJ:=@decide_eq_true
abbrev AHK:=@Nat.le_trans
abbrev AHL:=@if_true
abbrev AHM:=@and_true
abbrev AHN:=@Bool.or_eq_true
abbrev AHO:=@List.take_succ_eq_append_getElem
abbrev AHP:=@List.eq_of_mem_replicate
abbrev AHQ:=@Bool.not_false
abbrev AHR:=@List.all_eq_true
abbrev AHS:=@List.nil_append
abbrev AHW:=@Bool.false_and
abbrev AHX:=@Bool.eq_false_iff
abbrev AHY:=@List.getElem?_set_self
abbrev AHZ:=@List.cons_append
abbrev AHa:=@List.drop_zero
abbrev AHb:=@List.map_cons
abbrev AHc:=@Bool.not_eq_true'
abbrev AHd:=@Bool.false_or
abbrev AHe:=@beq_self_eq_true
abbrev AHg:=@List.not_mem_nil
abbrev AHi:=@Nat.add_mul
abbrev AHk:=@List.flatten_append
abbrev AHl:=@List.length_filter_le
abbrev AHm:=@Option.isSome_none
abbrev AHn:=@Nat.add_assoc
abbrev AHo:=@beq_iff_eq
abbrev AHp:=@Nat.zero_add
abbrev AHq:=@List.map_map
abbrev AHr:=@List.filter_cons
abbrev AHt:=@List.flatten_cons
abbrev AHu:=@List.drop_eq_getElem_cons
abbrev AHv:=@List.mem_map
abbrev AHw:=@List.all_cons
abbrev AHx:=@decide_eq_false_iff_not
abbrev AHz:=@Nat.add_zero
abbrev AH0:=@Option.bind_assoc
abbrev AH1:=@List.length_set
abbrev AH2:=@List.Perm.append_right
abbrev AH3:=@List.take_of_length_le
abbrev AH4:=@List.getElem_cons_zero
abbrev AH5:=@Int.tmod_eq_emod_of_nonneg
abbrev AH6:=@List.contains_iff_mem
abbrev AH8:=@List.singleton_append
abbrev AH9:=@List.mem_of_mem_drop
abbrev AH_:=@List.ext_getElem?
abbrev AIA:=@List.map_nil
abbrev AIB:=@List.replicate_succ
abbrev AIC:=@Array.length_toList
abbrev AID:=@Nat.sub_mul
abbrev AIE:=@Bool.and_true
abbrev AIF:=@Bool.and_self
abbrev AIH:=@List.flatten_nil
abbrev AII:=@List.length_take
abbrev AIJ:=@List.drop_length
abbrev AIK:=@List.getElem?_drop
abbrev AIL:=@List.getElem?_take
abbrev AIM:=@List.mem_singleton
abbrev AIO:=@Option.isSome_some
abbrev AIP:=@List.Perm.append_left
abbrev AIQ:=@Nat.sub_self
abbrev AIR:=@List.length_map
abbrev AIS:=@List.nodup_cons
abbrev AIT:=@Array.getD_eq_getD_getElem?
abbrev AIU:=@List.find?_cons
abbrev AIV:=@List.mem_filter
abbrev AIX:=@List.getElem?_eq_none
abbrev AIY:=@List.any_eq_false
abbrev AIa:=@Decidable.not_not
abbrev AIb:=@List.pairwise_map
abbrev AIc:=@List.exists_cons_of_length_eq_add_one
abbrev AId:=@List.mem_of_mem_take
abbrev AIe:=@List.mem_of_find?_eq_some
abbrev AIf:=@List.mem_or_eq_of_mem_set
abbrev AIg:=@Bool.and_false
abbrev AIh:=@List.length_drop
abbrev AIi:=@Option.getD_some
abbrev AIj:=@List.map_id
abbrev AIk:=@List.getElem?_replicate
abbrev AIl:=@List.getElem?_cons_succ
abbrev AIm:=@Int.eq_ofNat_of_zero_le
abbrev AIo:=@Array.size_append
abbrev AIp:=@List.size_toArray
abbrev AIq:=@bne_self_eq_false
abbrev AIr:=@List.flatMap_cons
abbrev AIs:=@not_true_eq_false
abbrev AIt:=@dite_true
abbrev AIu:=@Bool.and_eq_false_iff
abbrev AIv:=@List.getElem_set_self
abbrev AIw:=@List.mem_cons_of_mem
abbrev AIy:=@Bool.or_false
abbrev AIz:=@Option.map_some
abbrev AI0:=@List.drop_set_of_lt
abbrev AI1:=@List.take_set_of_le
abbrev AI2:=@Bool.eq_iff_iff
abbrev AI3:=@List.filter_eq_self
abbrev AI4:=@or_false
abbrev AI5:=@List.Perm.refl
abbrev AI6:=@List.mapM_cons
section
namespace Go.Fw
inductive Ty where
 |int (k:IntKind)|bool|str|sl (r:Ty)|unit|cons (c r:Ty)
 deriving DecidableEq
@[reducible] def Ty.D:Ty→Type
 | .int _=>Int
 | .bool=>Bool
 | .str=>List UInt8
 | .sl r=>List r.D
 | .unit=>Unit
 | .cons c r=>c.D×r.D
def Ty.n:Ty→Nat
 | .unit=>0
 | .cons _ r=>r.n+1
 |_=>1
def Ty.z:(t:Ty)→t.D
 | .int _=>(0:Int)
 | .bool=>false
 | .str=>[]
 | .sl _=>[]
 | .unit=>()
 | .cons c r=>(c.z,r.z)
def Ty.flat:Ty→Bool
 | .sl _=>false
 | .cons c r=>c.flat&&r.flat
 |_=>true
def Ty.scalar:Ty→Bool
 | .int _| .bool| .str=>true
 |_=>false
structure O7 where
 i:Nat
 sz:Nat
 j:Nat
inductive AV where
 |v (t:Ty) (x:t.D)
 |sl (s:Bool) (r:Ty) (x:List r.D)
 |nil
 |ref (b:Nat) (p:List O7)
 |win (b:Nat) (p:List O7) (off n:Nat)
 |Fg (b j:Nat)
 |GZ (b:Nat) (p:List O7) (i sz j:Nat)
 |KU (s:Bool) (r:Ty) (x:r.D) (j:Nat)
 |fn (f:Nat) (HI:AAO)
 |cI (f:Nat) (rows:List ((r:Ty)×r.D))
 |kj
 |undef
def AV.known:AV→Bool
 | .undef=>false
 |_=>true
inductive XV where
 |c (x:AV)
 |agg (l:List AV)
 |KK (l:List (AV ⊕ List AV))
inductive Bx where
 |mem (cs:List AV)
 |sl (d:Nat) (r:Ty) (rows:List r.D)
 |dead
structure St where
 tm:List XV
 bx:List Bx
def Az:(r:Ty)→(j:Nat)→r.D→Option ((t:Ty)×t.D)
 | .cons c _,0,x=>some ⟨c,x.1⟩
 | .cons _ r,j+1,x=>Az r j x.2
 | .unit,_,_=>none
 | .int k,0,x=>some ⟨.int k,x⟩
 | .bool,0,x=>some ⟨.bool,x⟩
 | .str,0,x=>some ⟨.str,x⟩
 | .sl r,0,x=>some ⟨.sl r,x⟩
 |_,_+1,_=>none
def bP{a b:Ty}(h:a=b)(x:a.D):b.D:=h▸x
def Cx:(r:Ty)→(j:Nat)→r.D→(t:Ty)→t.D→Option r.D
 | .cons c _,0,x,t,y=>if h:t=c then some (bP h y,x.2)else none
 | .cons _ r,j+1,x,t,y=>(Cx r j x.2 t y).map fun z=>(x.1,z)
 | .unit,_,_,_,_=>none
 | .int k,0,_,t,y=>if h:t= .int k then some (bP h y)else none
 | .bool,0,_,t,y=>if h:t= .bool then some (bP h y)else none
 | .str,0,_,t,y=>if h:t= .str then some (bP h y)else none
 | .sl r,0,_,t,y=>if h:t= .sl r then some (bP h y)else none
 |_,_+1,_,_,_=>none
def rowAt(r:Ty)(rows:List r.D)(i:Nat):r.D:=rows.getD i r.z
def Eh:(r:Ty)→List r.D→List O7→Option ((q:Ty)×List q.D)
 |r,rows,[]=>some ⟨r,rows⟩
 |r,rows,s::p=>
  match Az r s.j (rowAt r rows s.i)with
  |some ⟨.sl q,x⟩=>Eh q x p
  |_=>none
def aG:(r:Ty)→List r.D→List O7→(q:Ty)→List q.D→Option (List r.D)
 |r,_,[],q,y=>if h:q=r then some (bP (congrArg Ty.sl h) y)else none
 |r,rows,s::p,q,y=>
  match Az r s.j (rowAt r rows s.i)with
  |some ⟨.sl r',x⟩=>(aG r' x p q y).bind fun x' =>(Cx r s.j (rowAt r rows s.i) (.sl r') x').map fun row=>rows.set s.i row
  |_=>none
inductive TD where
 |int (k:IntKind)|bool|str|sl (e:Nat)|st (fs:List ACN)|ptr (e:Nat)|other
structure TI where
 size:Nat
 bytes:Nat
 desc:TD
 row:Option Ty
abbrev GH:=List (Nat×TI)
def GH.get:GH→Nat→Option TI
 |[],_=>none
 |(u,i)::l,t=>if u=t then some i else GH.get l t
def TD.agg:TD→Bool
 | .st _=>true
 |_=>false
def GH.Wh(T:GH)(t:Nat):Option Ty:=
 match T.get t with
 |some ti=>ti.row
 |none=>none
def j7:Ty→AV
 | .int k=> .v (.int k) (0:Int)
 | .bool=> .v .bool false
 | .str=> .v .str []
 | .sl _=> .nil
 |_=> .undef
def SH:Ty→List AV
 | .cons c r=>j7 c::SH r
 | .unit=>[]
 |t=>[j7 t]
def aj:Value→AV
 | .int k n=> .v (.int k) n
 | .bool b=> .v .bool b
 | .string s=> .v .str s.data.toList
 | .slice none 0 0=> .nil
 | .pointer none=> .kj
 |_=> .undef
def ofValue:Value→XV
 | .agg cs=> .agg (cs.toList.map aj)
 |v=> .c (aj v)
def St.ev(σ:St):Operand→XV
 | .tmp t=>σ.tm.getD t (.c .undef)
 | .const v=>ofValue v
 | .global _=> .c .undef
 | .func f=> .c (.fn f [])
def St.put(σ:St)(dst:Option Tmp)(x:XV):St:=
 match dst with
 |some d=>{ σ with tm:=σ.tm.set d x }
 |none=>σ
def XV.cells:XV→List AV
 | .c x=>[x]
 | .agg l=>l
 | .KK _=>[]
def LC{β:Ty→Type}(a b:Ty)(x:β a):Option (β b):=if h:a=b then some (h▸x)else none
def JI(bx:List Bx):AV→Option ((r:Ty)×List r.D)
 | .sl _ r x=>some ⟨r,x⟩
 | .ref b p=>
  match bx[b]? with
  |some (.sl _ r rows)=>Eh r rows p
  |_=>none
 | .win b p off n=>
  match bx[b]? with
  |some (.sl _ r rows)=>(Eh r rows p).map fun q=>⟨q.1,(q.2.drop off).take n⟩
  |_=>none
 |_=>none
def Iw(bx:List Bx)(t:Ty)(x:AV):Option t.D:=
 match x with
 | .v u y=>LC (β:=Ty.D) u t y
 | .nil=>match t with
  | .sl _=>some []
  |_=>none
 |x=>match t with
  | .sl r=>(JI bx x).bind fun q=>LC (β:=fun r=>List r.D) q.1 r q.2
  |_=>none
def FQ(bx:List Bx):(r:Ty)→List AV→Option r.D
 | .unit,[]=>some ()
 | .cons c r,x::l=>(Iw bx c x).bind fun a=>(FQ bx r l).map fun b=>(a,b)
 |_,_=>none
def lenOf(bx:List Bx):AV→Option Nat
 | .nil=>some 0
 | .sl _ _ x=>some x.length
 | .ref b p=>
  match bx[b]? with
  |some (.sl _ r rows)=>(Eh r rows p).map fun q=>q.2.length
  |_=>none
 | .win b _ _ n=>
  match bx[b]? with
  |some (.sl _ _ _)=>some n
  |_=>none
 |_=>none
inductive AP where
 |v (t:Ty)
 |sl (s:Bool) (r:Ty)
 |nil
 |ref (i:Nat)
 |ptr (i j:Nat)
 |ZE (r:Ty)
 |fn (f:Nat) (HI:AAO)
 |cI (f:Nat) (rs:List Ty)
 |any
 |X9 (i sz:Nat)
inductive XP where
 |c (p:AP)
 |agg (l:List AP)
 |row (r:Ty)
 |KK (l:List (AP ⊕ List AP))
inductive BP where
 |mem (l:List AP)
 |sl (d:Nat) (r:Ty)
 |gone
structure Bg where
 Cv:List (Nat×XP)
 ES:List BP
@[reducible] def Q9:List Ty→Type
 |[]=>Unit
 |r::l=>r.D×Q9 l
def Q9.mk:(l:List Ty)→Q9 l→List ((r:Ty)×r.D)
 |[],_=>[]
 |r::l,x=>⟨r,x.1⟩::Q9.mk l x.2
@[reducible] def AP.V:AP→Type
 | .cI _ rs=>Q9 rs
 | .v t=>t.D
 | .sl _ r=>List r.D
 | .ZE r=>r.D
 | .X9 _ _=>Nat×Nat
 |_=>Unit
@[reducible] def P8.V:List AP→Type
 |[]=>Unit
 |p::l=>p.V×P8.V l
@[reducible] def QN.V:List (AP ⊕ List AP)→Type
 |[]=>Unit
 | .inl p::l=>p.V×QN.V l
 | .inr q::l=>P8.V q×QN.V l
@[reducible] def XP.V:XP→Type
 | .c p=>p.V
 | .agg l=>P8.V l
 | .row r=>r.D
 | .KK l=>QN.V l
@[reducible] def BP.V:BP→Type
 | .mem l=>P8.V l
 | .sl _ r=>List r.D
 | .gone=>Unit
@[reducible] def Ef.V:List (Nat×XP)→Type
 |[]=>Unit
 |(_,p)::l=>p.V×Ef.V l
@[reducible] def Gf.V:List BP→Type
 |[]=>Unit
 |p::l=>p.V×Gf.V l
@[reducible] def Bg.V (s:Bg):Type:=Ef.V s.Cv×Gf.V s.ES
def AP.mk(m:Nat→Nat):(p:AP)→p.V→AV
 | .v t,x=> .v t x
 | .sl s r,x=> .sl s r x
 | .nil,_=> .nil
 | .ref i,_=> .ref (m i) []
 | .ptr i j,_=> .Fg (m i) j
 | .ZE r,x=> .KU false r x 0
 | .fn f HI,_=> .fn f (HI.map m)
 | .cI f rs,x=> .cI f (Q9.mk rs x)
 | .any,_=> .undef
 | .X9 i sz,k=> .ref (m i) [⟨k.1,sz,k.2⟩]
def P8.mk(m:Nat→Nat):(l:List AP)→P8.V l→List AV
 |[],_=>[]
 |p::l,x=>p.mk m x.1::P8.mk m l x.2
def Z9:(r:Ty)→r.D→List AV
 | .unit,_=>[]
 | .cons c r,x=>(match c,x.1 with
  | .sl q,y=>AV.sl false q y
  |c,y=> .v c y)::Z9 r x.2
 | .sl q,x=>[.sl false q x]
 | .int k,x=>[.v (.int k) x]
 | .bool,x=>[.v .bool x]
 | .str,x=>[.v .str x]
def QN.mk(m:Nat→Nat):(l:List (AP ⊕ List AP))→QN.V l→List (AV ⊕ List AV)
 |[],_=>[]
 | .inl p::l,x=> .inl (p.mk m x.1)::QN.mk m l x.2
 | .inr q::l,x=> .inr (P8.mk m q x.1)::QN.mk m l x.2
def XP.mk(m:Nat→Nat):(p:XP)→p.V→XV
 | .c p,x=> .c (p.mk m x)
 | .agg l,x=> .agg (P8.mk m l x)
 | .row r,x=> .agg (Z9 r x)
 | .KK l,x=> .KK (QN.mk m l x)
def BP.mk(m:Nat→Nat):(p:BP)→p.V→Bx
 | .mem l,x=> .mem (P8.mk m l x)
 | .sl d r,x=> .sl d r x
 | .gone,_=> .dead
def Ef.mk(m:Nat→Nat):(l:List (Nat×XP))→Ef.V l→List XV→List XV
 |[],_,tm=>tm
 |(i,p)::l,x,tm=>Ef.mk m l x.2 (tm.set i (p.mk m x.1))
def Gf.mk(m:Nat→Nat):(l:List BP)→Gf.V l→List Bx
 |[],_=>[]
 |p::l,x=>p.mk m x.1::Gf.mk m l x.2
def Bg.st(s:Bg)(n:Nat)(x:s.V):St:=
 { tm:=Ef.mk id s.Cv x.1 (List.replicate n (.c .undef)),bx:=Gf.mk id s.ES x.2 }
abbrev KY:=List (Option Nat)
def KY.put(m:KY)(i b:Nat):Option KY:=
 match m[i]? with
 |some none=>if m.contains (some b)then none else some (m.set i (some b))
 |some (some b')=>if b' =b then some m else none
 |none=>none
def Sd:KY→List Nat→List Nat→Option KY
 |m,[],[]=>some m
 |m,i::is,b::bs=>(m.put i b).bind fun m=>Sd m is bs
 |_,_,_=>none
def AP.Jb(N:Nat)(m:KY):AP→AV→Option KY
 | .ref i,.ref b []=>m.put i b
 | .ref i,.nil=>m.put i (N+i)
 | .ref _,_=>none
 | .X9 i sz,.ref b [s]=>if s.sz=sz then m.put i b else none
 | .X9 _ _,_=>none
 | .ptr i j,.Fg b j' =>if j=j' then m.put i b else none
 | .ptr _ _,_=>none
 | .fn f HI,.fn g bs=>if f=g then Sd m HI bs else none
 | .fn _ _,_=>none
 | .nil,.nil=>some m
 | .nil,_=>none
 |_,_=>some m
def P8.Jb(N:Nat):KY→List AP→List AV→Option KY
 |m,[],[]=>some m
 |m,p::l,x::xs=>(p.Jb N m x).bind fun m=>P8.Jb N m l xs
 |_,_,_=>none
def QN.Jb(N:Nat):KY→List (AP ⊕ List AP)→List (AV ⊕ List AV)→Option KY
 |m,[],[]=>some m
 |m,.inl p::l,.inl x::xs=>(p.Jb N m x).bind fun m=>QN.Jb N m l xs
 |m,.inr p::l,.inr x::xs=>(P8.Jb N m p x).bind fun m=>QN.Jb N m l xs
 |_,_,_=>none
def XP.Jb(N:Nat)(m:KY):XP→XV→Option KY
 | .c p,.c x=>p.Jb N m x
 | .agg l,.agg xs=>P8.Jb N m l xs
 | .row _,.agg _=>some m
 | .KK l,.KK xs=>QN.Jb N m l xs
 |_,_=>none
def Ef.Jb(N:Nat)(tm:List XV):KY→List (Nat×XP)→Option KY
 |m,[]=>some m
 |m,(i,p)::l=>
  match tm[i]? with
  |some x=>(p.Jb N m x).bind fun m=>Ef.Jb N tm m l
  |none=>none
def Gf.Jb(N:Nat)(bx:List Bx):Nat→KY→List BP→Option KY
 |_,m,[]=>some m
 |i,m,.mem l::ps=>
  match m[i]? with
  |some (some b)=>
   match bx[b]? with
   |some (.mem cs)=>(P8.Jb N m l cs).bind fun m=>Gf.Jb N bx (i+1) m ps
   |_=>none
  |_=>none
 |i,m,.sl _ _::ps=>
  match m[i]? with
  |some (some _)=>Gf.Jb N bx (i+1) m ps
  |_=>none
 |i,m,.gone::ps=>Gf.Jb N bx (i+1) m ps
def B3(bx:List Bx):KY→List Bx
 |[]=>bx
 |some b::m=>B3 (bx.set b .dead) m
 |none::m=>B3 bx m
def Q9.aC:(l:List Ty)→List ((r:Ty)×r.D)→Option (Q9 l)
 |[],[]=>some ()
 |r::l,q::qs=>(LC (β:=Ty.D) q.1 r q.2).bind fun a=>(Q9.aC l qs).map fun b=>(a,b)
 |_,_=>none
def Q9.bG(bx:List Bx):(l:List Ty)→List Nat→Option (Q9 l)
 |[],[]=>some ()
 |r::l,b::bs=>(match bx[b]? with
  |some (.mem cs)=>FQ bx r cs
  |_=>none).bind fun a=>(Q9.bG bx l bs).map fun c=>(a,c)
 |_,_=>none
def AP.get(bx:List Bx):(p:AP)→AV→Option p.V
 | .cI f rs,x=>match x with
  | .cI g rows=>if f=g then Q9.aC rs rows else none
  | .fn g bs=>if f=g then Q9.bG bx rs bs else none
  |_=>none
 | .v t,x=>if t.scalar then Iw bx t x else none
 | .sl false r,x=>Iw bx (.sl r) x
 | .sl true r,x=>match x with
  | .sl true q y=>LC (β:=fun r=>List r.D) q r y
  | .nil=>some []
  |_=>none
 | .ZE r,x=>match x with
  | .KU _ q y 0=>LC (β:=Ty.D) q r y
  | .Fg b 0=>match bx[b]? with
   |some (.mem cs)=>FQ bx r cs
   |_=>none
  | .GZ b p i sz 0=>match bx[b]? with
   |some (.sl _ q rows)=>(Eh q rows p).bind fun s=>if sz=s.1.n then LC (β:=Ty.D) s.1 r (rowAt s.1 s.2 i)else none
   |_=>none
  |_=>none
 | .nil,_=>some ()
 | .ref _,_=>some ()
 | .ptr _ _,_=>some ()
 | .fn _ _,_=>some ()
 | .any,_=>some ()
 | .X9 _ _,x=>match x with
  | .ref _ [s]=>some (s.i,s.j)
  |_=>none
def P8.get(bx:List Bx):(l:List AP)→List AV→Option (P8.V l)
 |[],[]=>some ()
 |p::l,x::xs=>(p.get bx x).bind fun a=>(P8.get bx l xs).map fun b=>(a,b)
 |_,_=>none
def QN.get(bx:List Bx):(l:List (AP ⊕ List AP))→List (AV ⊕ List AV)→Option (QN.V l)
 |[],[]=>some ()
 | .inl p::l,.inl x::xs=>(p.get bx x).bind fun a=>(QN.get bx l xs).map fun b=>(a,b)
 | .inr p::l,.inr x::xs=>(P8.get bx p x).bind fun a=>(QN.get bx l xs).map fun b=>(a,b)
 |_,_=>none
def XP.get(bx:List Bx):(p:XP)→XV→Option p.V
 | .c p,.c x=>p.get bx x
 | .agg l,.agg xs=>P8.get bx l xs
 | .row r,.agg xs=>FQ bx r xs
 | .KK l,.KK xs=>QN.get bx l xs
 |_,_=>none
def Ef.get(bx:List Bx)(tm:List XV):(l:List (Nat×XP))→Option (Ef.V l)
 |[]=>some ()
 |(i,p)::l=>
  match tm[i]? with
  |some x=>(p.get bx x).bind fun a=>(Ef.get bx tm l).map fun b=>(a,b)
  |none=>none
def Gf.get(bx bk:List Bx):(m:KY)→(l:List BP)→Option (Gf.V l)
 |_,[]=>some ()
 |some b::m,.mem l::ps=>
  match bx[b]? with
  |some (.mem cs)=>(P8.get bk l cs).bind fun a=>(Gf.get bx bk m ps).map fun c=>(a,c)
  |_=>none
 |some b::m,.sl d r::ps=>
  match bx[b]? with
  |some (.sl d' q rows)=>if 1≤d∧d≤d' then(LC (β:=fun r=>List r.D) q r rows).bind fun a=>(Gf.get bx bk m ps).map fun c=>(a,c)else none
  |_=>none
 |_::m,.gone::ps=>(Gf.get bx bk m ps).map fun c=>((),c)
 |_,_=>none
def Bg.fit(s:Bg)(N:Nat)(m0:KY)(tm:List XV)(bx:List Bx):Option (s.V×KY):=
 (Ef.Jb N tm m0 s.Cv).bind fun m=>(Gf.Jb N bx 0 m s.ES).bind fun m=>
  let bk:=B3 bx m
  (Ef.get bk tm s.Cv).bind fun a=>(Gf.get bx bk m s.ES).map fun c=>((a,c),m)
def BP.opened:BP→Bx
 | .sl d r=> .sl (d+1) r []
 |_=> .dead
def Bg.opens(s:Bg)(bx:List Bx):List Bx:=bx++s.ES.map BP.opened
def Bg.m0(s:Bg):KY:=List.replicate s.ES.length none
structure Ma where
 ins:Bg
 outs:Bg
 g:ins.V→Option outs.V
def Qd(m:KY)(n:Nat)(i:Nat):Nat:=
 match m[i]? with
 |some (some b)=>b
 |_=>n+(i-m.length)
def RX(GQ:Nat→Nat):Nat→(l:List BP)→Gf.V l→List Bx→List Bx
 |_,[],_,bx=>bx
 |i,p::l,x,bx=>RX GQ (i+1) l x.2 (if GQ i<bx.length then bx.set (GQ i) (p.mk GQ x.1)else bx++[p.mk GQ x.1])
def Ub:(l:List (Nat×XP))→Ef.V l→(Nat→Nat)→XV
 |(_,p)::_,x,GQ=>p.mk GQ x.1
 |[],_,_=> .c .undef
def IQ:Nat:=2^36
section ops
variable{Y:Type}
abbrev K(Y:Type):=XV→St→Option Y
def St.new(σ:St)(b:Bx):St:={ σ with bx:=σ.bx++[b] }
def oU(x:Bool)(a b:XV)(σ:St)(k:K Y):Option Y:=cond x (k a σ) (k b σ)
def VI(op:BinOp)(κ:IntKind)(a b:Int)(k:AV→Option Y):Option Y:=
 match op with
 | .add=>k (.v (.int κ) (κ.wrap (a+b)))
 | .sub=>k (.v (.int κ) (κ.wrap (a-b)))
 | .mul=>k (.v (.int κ) (κ.wrap (a*b)))
 | .quo=>if b=0 then none else k (.v (.int κ) (κ.wrap (a.tdiv b)))
 | .rem=>if b=0 then none else k (.v (.int κ) (a.tmod b))
 | .and=>k (.v (.int κ) (κ.wrap (BitVec.ofInt κ.bits a &&& BitVec.ofInt κ.bits b).toNat))
 | .or=>k (.v (.int κ) (κ.wrap (BitVec.ofInt κ.bits a ||| BitVec.ofInt κ.bits b).toNat))
 | .xor=>k (.v (.int κ) (κ.wrap (BitVec.ofInt κ.bits a ^^^ BitVec.ofInt κ.bits b).toNat))
 | .andNot=>k (.v (.int κ) (κ.wrap (BitVec.ofInt κ.bits a &&& ~~~BitVec.ofInt κ.bits b).toNat))
 | .eql=>k (.v .bool (a==b))
 | .neq=>k (.v .bool (a !=b))
 | .lss=>k (.v .bool (decide (a<b)))
 | .leq=>k (.v .bool (decide (a≤b)))
 | .gtr=>k (.v .bool (decide (a>b)))
 | .geq=>k (.v .bool (decide (a≥b)))
 |_=>none
def QM(op:BinOp)(κ:IntKind)(a b:Int)(k:AV→Option Y):Option Y:=
 if b<0 then none else
 match op with
 | .shl=>k (.v (.int κ) (κ.wrap (a*2^min b.toNat κ.bits)))
 | .shr=>k (.v (.int κ) (a.fdiv (2^min b.toNat κ.bits)))
 |_=>none
def XF(op:BinOp)(a b:List UInt8)(k:AV→Option Y):Option Y:=
 match op with
 | .add=>if a.length+b.length≤IQ then k (.v .str (a++b))else none
 | .eql=>k (.v .bool (a==b))
 | .neq=>k (.v .bool (!(a==b)))
 | .lss=>k (.v .bool (Op.bytesLess a b))
 | .leq=>k (.v .bool (Op.bytesLess a b||a==b))
 | .gtr=>k (.v .bool (!(Op.bytesLess a b||a==b)))
 | .geq=>k (.v .bool (!Op.bytesLess a b))
 |_=>none
def aX:TD→AV→AV→Option Bool
 | .int _,.v (.int j) a,.v (.int k) b=>if j=k then some (a==b)else none
 | .bool,.v .bool a,.v .bool b=>some (a==b)
 | .str,.v .str a,.v .str b=>some (a==b)
 |_,_,_=>none
def HV(T:GH):Nat→List ACN→List AV→List AV→Option Bool
 |_,[],[],[]=>some true
 |i,(o,t)::fs,x::l,z::m=>
  if o=i then
   match T.get t with
   |some ti=>match aX ti.desc x z with
    |some p=>(HV T (i+1) fs l m).map fun r=>p&&r
    |none=>none
   |none=>none
  else none
 |_,_,_,_=>none
def GH.fields(T:GH)(t:Nat):Option (List ACN):=
 match(T.get t).map TI.desc with
 |some (.st fs)=>some fs
 |_=>none
def hO(T:GH)(t:Nat)(op:BinOp)(a b:XV)(k:AV→Option Y):Option Y:=
 match a,b with
 | .c (.v (.int j) x),.c (.v (.int j') y)=>
  match op with
  | .shl| .shr=>QM op j x y k
  |_=>if j=j' then VI op j x y k else none
 | .c (.v .str x),.c (.v .str y)=>XF op x y k
 | .c (.v .bool x),.c (.v .bool y)=>
  match T.get t with
  |some ti=>match ti.desc with
   | .bool=>match op with
    | .eql=>k (.v .bool (x==y))
    | .neq=>k (.v .bool (!(x==y)))
    |_=>none
   |_=>none
  |none=>none
 | .agg l,.agg m=>
  match op,(T.fields t).bind fun fs=>HV T 0 fs l m with
  | .eql,some r=>k (.v .bool r)
  | .neq,some r=>k (.v .bool (!r))
  |_,_=>none
 |_,_=>none
def v7(op:UnOp)(a:XV)(k:AV→Option Y):Option Y:=
 match op,a with
 | .not,.c (.v .bool x)=>k (.v .bool (!x))
 | .neg,.c (.v (.int j) x)=>k (.v (.int j) (j.wrap (0-x)))
 |_,_=>none
def lI(d b:Nat)(p:List O7)(s:O7):((t:Ty)×t.D)→AV
 |⟨.sl r,x⟩=>if d≤1 then .sl true r x else .ref b (p++[s])
 |⟨t,x⟩=>if t.scalar then .v t x else .undef
def j5(s:Bool):((t:Ty)×t.D)→AV
 |⟨.sl r,x⟩=> .sl s r x
 |⟨t,x⟩=>if t.scalar then .v t x else .undef
def Ti(f:Nat→Option AV):Nat→Nat→Option (List AV)
 |_,0=>some []
 |j,n+1=>(f j).bind fun x=>(Ti f (j+1) n).map fun l=>x::l
def GP(bx:List Bx):AV→Nat→Option AV
 | .Fg b j,i=>
  match bx[b]? with
  |some (.mem cs)=>cs[j+i]?
  |_=>none
 | .GZ b p r sz j,i=>
  match bx[b]? with
  |some (.sl d q rows)=>if p.length<d then(Eh q rows p).bind fun s=>if sz=s.1.n then(Az s.1 (j+i) (rowAt s.1 s.2 r)).map (lI (d-p.length) b p ⟨r,sz,j+i⟩)else none else none
  |_=>none
 | .KU s r x j,i=>(Az r (j+i) x).map (j5 s)
 |_,_=>none
def Yn(T:GH)(t:Nat)(σ:St)(a:XV):Option XV:=
 match a,T.get t with
 | .c a,some ti=>if ti.size=0 then none else if ti.desc.agg then(Ti (GP σ.bx a) 0 ti.size).map .agg else(GP σ.bx a 0).map .c
 |_,_=>none
def Tl(d:Nat)(t:Ty)(x:AV)(bx:List Bx):Option (t.D×List Bx×Nat):=
 match x with
 | .v u y=>(LC (β:=Ty.D) u t y).map fun y=>(y,bx,d)
 | .nil=>match t with
  | .sl _=>some ([],bx,d)
  |_=>none
 | .sl true r y=>match t with
  | .sl q=>(LC (β:=fun r=>List r.D) r q y).map fun y=>(y,bx,1)
  |_=>none
 | .ref b []=>match t with
  | .sl q=>
   match bx[b]? with
   |some (.sl d' r y)=>(LC (β:=fun r=>List r.D) r q y).map fun y=>(y,bx.set b .dead,min d (d'+1))
   |_=>none
  |_=>none
 | .win b [] off n=>match t with
  | .sl q=>
   match bx[b]? with
   |some (.sl d' r y)=>(LC (β:=fun r=>List r.D) r q ((y.drop off).take n)).map fun y=>(y,bx.set b .dead,min d (d'+1))
   |_=>none
  |_=>none
 |_=>none
def cellsIn(d:Nat):(r:Ty)→List AV→List Bx→Option (r.D×List Bx×Nat)
 | .unit,[],bx=>some ((),bx,d)
 | .cons c r,x::l,bx=>(Tl d c x bx).bind fun a=>(cellsIn a.2.2 r l a.2.1).map fun b=>((a.1,b.1),b.2)
 |_,_,_=>none
def pk(d:Nat)(r:Ty)(x:XV)(bx:List Bx):Option (r.D×List Bx×Nat):=
 match x with
 | .agg l=>cellsIn d r l bx
 | .c x=>Tl d r x bx
 |_=>none
def Ga(b:Nat):AV→AV
 | .ref b' (s::p)=>if b' =b then .undef else .ref b' (s::p)
 | .win b' (s::p) i n=>if b' =b then .undef else .win b' (s::p) i n
 | .GZ b' (s::p) i sz j=>if b' =b then .undef else .GZ b' (s::p) i sz j
 |x=>x
def ec(b:Nat):XV→XV
 | .c x=> .c (Ga b x)
 | .agg l=> .agg (l.map (Ga b))
 | .KK l=> .KK (l.map fun| .inl x=> .inl (Ga b x)| .inr q=> .inr (q.map (Ga b)))
def lj(b:Nat):Bx→Bx
 | .mem cs=> .mem (cs.map (Ga b))
 |x=>x
def St.lL(b:Nat)(σ:St):St:={ tm:=σ.tm.map (ec b),bx:=σ.bx.map (lj b) }
def PG(cs:List AV):Nat→List AV→Option (List AV)
 |_,[]=>some cs
 |j,x::l=>if j<cs.length then PG (cs.set j x) (j+1) l else none
def cD(d:Nat)(r:Ty)(np:r.D)(j:Nat)(x:XV)(bx:List Bx):Option (r.D×List Bx×Nat):=
 match x with
 | .agg l=>if j=0 then cellsIn d r l bx else none
 | .c x=>
  match Az r j np with
  |some ⟨t,_⟩=>(Tl d t x bx).bind fun a=>(Cx r j np t a.1).map fun row=>(row,a.2)
  |none=>none
 |_=>none
def XV.plain:XV→Bool
 | .c (.v _ _)=>true
 |_=>false
def Vg(σ:St)(a:XV)(x:XV):Option St:=
 match a with
 | .c (.Fg b j)=>
  match σ.bx[b]? with
  |some (.mem cs)=>(PG cs j x.cells).map fun cs=>{ σ with bx:=σ.bx.set b (.mem cs) }
  |_=>none
 | .c (.GZ b p i sz j)=>
  match σ.bx[b]? with
  |some (.sl d r rows)=>if p.length<d then
   (Eh r rows p).bind fun s=>if sz=s.1.n then(cD (d-p.length) s.1 (rowAt s.1 s.2 i) j x (σ.bx.set b .dead)).bind fun w=>
    (aG r rows p s.1 (s.2.set i w.1)).map fun rows=>
     let σ':St:={ σ with bx:=w.2.1.set b (.sl (w.2.2+p.length) r rows) }
     if x.plain then σ' else σ'.lL b
    else none
   else none
  |_=>none
 |_=>none
def Ro(σ:St)(a x:XV):Option (St×XV):=
 match a,x with
 | .c (.GZ b _ _ _ _),.c (.win b' (s::p') off n)=>
  if b' =b then
   match σ.bx[b]? with
   |some (.sl d r rows)=>(Eh r rows (s::p')).map fun q=>({ σ with bx:=σ.bx.set b (.sl (min d (p'.length+1)) r rows) },.c (.sl true q.1 ((q.2.drop off).take n)))
   |_=>none
  else none
 |_,_=>some (σ,x)
def LJ(σ:St)(a x:XV):Option St:=(Ro σ a x).bind fun q=>Vg q.1 a q.2
def Zj(bx:List Bx)(x:AV):Option ((r:Ty)×(List r.D×List Bx×Nat)):=
 match x with
 | .v .str s=>some ⟨.int .u8,s.map (fun c=>(c.toNat:Int)),bx,9⟩
 | .sl s r rows=>if r.flat then some ⟨r,rows,bx,9⟩else if s then some ⟨r,rows,bx,1⟩else none
 | .ref b []=>
  match bx[b]? with
  |some (.sl d r rows)=>if r.flat then some ⟨r,rows,bx,9⟩else some ⟨r,rows,bx.set b .dead,d⟩
  |_=>none
 | .ref b p=>
  match bx[b]? with
  |some (.sl _ r rows)=>(Eh r rows p).bind fun q=>if q.1.flat then some ⟨q.1,q.2,bx,9⟩else none
  |_=>none
 | .win b p off n=>
  match bx[b]? with
  |some (.sl _ r rows)=>(Eh r rows p).bind fun q=>if q.1.flat then some ⟨q.1,(q.2.drop off).take n,bx,9⟩else none
  |_=>none
 |_=>none
def Zs(bx:List Bx)(x:AV):Option ((r:Ty)×(List r.D×List Bx×Nat)):=
 match x with
 | .ref b []=>
  match bx[b]? with
  |some (.sl d r rows)=>some ⟨r,rows,bx.set b .dead,d⟩
  |_=>none
 | .win b [] off n=>
  match bx[b]? with
  |some (.sl d r rows)=>some ⟨r,(rows.drop off).take n,bx.set b .dead,d⟩
  |_=>none
 |_=>none
def GH.elem(T:GH)(t:Nat):Option TI:=
 match(T.get t).map TI.desc with
 |some (.sl e)=>T.get e
 |_=>none
def GH.JB(T:GH)(t:Nat)(r:Ty):Bool:=
 match T.elem t with
 |some ti=>decide (ti.size=r.n)&&decide (ti.bytes≤512)&&decide (ti.row=some r)
 |none=>false
def GH.isStr(T:GH)(t:Nat):Bool:=
 match(T.get t).map TI.desc with
 |some .str=>true
 |_=>false
def GH.uR(T:GH)(t:Nat):Bool:=
 match(T.get t).map TI.desc with
 |some (.sl _)=>true
 |_=>false
def Uj(T:GH)(ts:Array TypeId)(σ:St)(a x:XV)(k:K Y):Option Y:=
 match ts[0]?,ts[1]? with
 |some t,some u=>
  if T.uR u||T.isStr u then
   match a,x with
   | .c .nil,.c y=>
    (Zj σ.bx y).bind fun s=>if T.JB t s.1 then
     if s.2.1.length≤IQ then k (.c (.ref s.2.2.1.length [])) { σ with bx:=s.2.2.1++[.sl s.2.2.2 s.1 s.2.1] }else none
     else none
   | .c a,.c y=>
    (Zs σ.bx a).bind fun d=>if T.JB t d.1 then(Zj d.2.2.1 y).bind fun s=>
     (LC (β:=fun r=>List r.D) s.1 d.1 s.2.1).bind fun rows=>
      if d.2.1.length+rows.length≤IQ then
       k (.c (.ref s.2.2.1.length [])) { σ with bx:=s.2.2.1++[.sl (min d.2.2.2 s.2.2.2) d.1 (d.2.1++rows)] }
      else none
     else none
   |_,_=>none
  else none
 |_,_=>none
def X0(T:GH)(ts:Array TypeId)(σ:St)(x:XV)(k:K Y):Option Y:=
 match ts[0]?,x with
 |some t,.c (.win b [] off n)=>
  match σ.bx[b]? with
  |some (.sl d r rows)=>if T.JB t r&&(r.flat&&decide (0<r.n))then k (.c .undef) { σ with bx:=σ.bx.set b (.sl d r ((rows.take off++List.replicate n r.z)++rows.drop (off+n))) }else none
  |_=>none
 |_,_=>none
def TZ:XV→Option Int
 | .c (.v (.int _) n)=>some n
 |_=>none
def Jl(len:Nat)(lo hi:Option XV)(k:Nat→Nat→Option Y):Option Y:=
 let h:Option Int:=match hi with
  |none=>some (len:Int)
  |some x=>TZ x
 let l:Option Int:=match lo with
  |none=>some 0
  |some x=>TZ x
 match l,h with
 |some l,some h=>if 0≤l∧l≤h∧h≤(len:Int)then k l.toNat h.toNat else none
 |_,_=>none
def XW(T:GH)(t:Nat)(σ:St)(x:XV)(lo hi:Option XV)(k:K Y):Option Y:=
 match x with
 | .c (.v .str s)=>if T.isStr t then Jl s.length lo hi fun l h=>k (.c (.v .str ((s.drop l).take (h-l)))) σ else none
 | .c (.sl s r rows)=>if T.JB t r then Jl rows.length lo hi fun l h=>k (.c (.sl s r ((rows.drop l).take (h-l)))) σ else none
 | .c (.ref b p)=>
  match JI σ.bx (.ref b p)with
  |some q=>if T.JB t q.1 then Jl q.2.length lo hi fun l h=>k (.c (.win b p l (h-l))) σ else none
  |none=>none
 |_=>none
def YB(σ:St)(T:GH)(t:Nat)(x i:XV)(k:K Y):Option Y:=
 match x,TZ i with
 | .c (.sl s r rows),some i=>if T.JB t r then(if 0≤i∧i<(rows.length:Int)then k (.c (.KU s r (rowAt r rows i.toNat) 0)) σ else none)else none
 | .c (.ref b p),some i=>
  match JI σ.bx (.ref b p)with
  |some q=>if T.JB t q.1 then(if 0≤i∧i<(q.2.length:Int)then k (.c (.GZ b p i.toNat q.1.n 0)) σ else none)else none
  |none=>none
 | .c (.win b p off n),some i=>
  match JI σ.bx (.ref b p)with
  |some q=>if T.JB t q.1 then(if 0≤i∧i<(n:Int)then k (.c (.GZ b p (off+i.toNat) q.1.n 0)) σ else none)else none
  |none=>none
 |_,_=>none
def gE(T:GH)(t:Nat)(x:XV)(f:Nat):Option XV:=
 match T.get t with
 |some ⟨_,_,.st fs,_⟩=>
  match fs[f]? with
  |some (o,_)=>match x with
   | .c (.Fg b j)=>some (.c (.Fg b (j+o)))
   | .c (.GZ b p i sz j)=>some (.c (.GZ b p i sz (j+o)))
   | .c (.KU s r y j)=>some (.c (.KU s r y (j+o)))
   |_=>none
  |none=>none
 |_=>none
def qB(T:GH)(t:Nat)(x:XV)(f:Nat):Option XV:=
 match T.get t,x with
 |some ⟨_,_,.st fs,_⟩,.agg l=>
  match fs[f]? with
  |some (o,u)=>
   match T.get u with
   |some ti=>if ti.desc.agg then some (.agg ((l.drop o).take ti.size))else(l[o]?).map .c
   |none=>none
  |none=>none
 |_,_=>none
def eO(T:GH)(src dst:Nat)(σ:St)(x:XV)(k:K Y):Option Y:=
 match(T.get src).map TI.desc,(T.get dst).map TI.desc,x with
 |some (.int _),some (.int κ),.c (.v (.int _) n)=>k (.c (.v (.int κ) (κ.wrap n))) σ
 |some .str,some .str,.c (.v .str s)=>k (.c (.v .str s)) σ
 |some .str,some (.sl e),.c (.v .str s)=>
  match(T.get e).map TI.desc with
  |some (.int .u8)=>if s.length≤IQ then k (.c (.ref σ.bx.length [])) (σ.new (.sl 9 (.int .u8) (s.map fun c=>(c.toNat:Int))))else none
  |_=>none
 |some (.sl e),some .str,.c x=>
  match(T.get e).map TI.desc,Iw σ.bx (.sl (.int .u8)) x with
  |some (.int .u8),some l=>k (.c (.v .str (l.map fun n:Int=>UInt8.ofNat n.toNat))) σ
  |_,_=>none
 |_,_,_=>none
def du(T:GH)(t:Nat)(σ:St)(l c:XV)(k:K Y):Option Y:=
 match(T.get t).map TI.desc,TZ l,TZ c with
 |some (.sl e),some n,some m=>
  match GH.Wh T e with
  |some r=>if T.JB t r then(if 0≤n∧n≤m∧m≤(IQ:Int)then k (.c (.ref σ.bx.length [])) (σ.new (.sl 9 r (List.replicate n.toNat r.z)))else none)else none
  |none=>none
 |_,_,_=>none
def VN(T:GH)(fs:List ACN):List AV→List (Nat×XV)→Option (List AV)
 |cs,[]=>some cs
 |cs,(i,x)::l=>
  match fs[i]? with
  |some (o,u)=>
   match T.get u with
   |some ti=>if x.cells.length=ti.size∧ti.size≠0∧x.cells.all AV.known=true then(PG cs o x.cells).bind fun cs=>VN T fs cs l else none
   |none=>none
  |none=>none
def Qr(r:Ty):Nat→Nat→List (Nat×XV)→List Bx→Nat→Option (List r.D×List Bx×Nat)
 |_,0,[],bx,d=>some ([],bx,d)
 |i,n+1,(j,x)::l,bx,d=>
  if i=j then(pk d r x bx).bind fun a=>(Qr r (i+1) n l a.2.1 a.2.2).map fun b=>(a.1::b.1,b.2)else none
 |i,n+1,[],bx,d=>(Qr r (i+1) n [] bx d).map fun b=>(r.z::b.1,b.2)
 |_,0,_::_,_,_=>none
def Lb(T:GH)(t n:Nat)(parts:List (Nat×XV))(σ:St)(k:K Y):Option Y:=
 match(T.get t).map TI.desc with
 |some (.sl e)=>
  match GH.Wh T e with
  |some r=>if T.JB t r&&decide (n≤1024)&&decide (r.n≤1024)then(Qr r 0 n parts σ.bx 9).bind fun a=>k (.c (.ref a.2.1.length [])) { σ with bx:=a.2.1++[.sl a.2.2 r a.1] }else none
  |none=>none
 |_=>none
def PC(T:GH)(t:Nat)(σ:St)(x i:XV)(k:K Y):Option Y:=
 match x,TZ i with
 | .c (.v .str s),some i=>if T.isStr t then if 0≤i∧i<(s.length:Int)then k (.c (.v (.int .u8) ((s.getD i.toNat 0).toNat:Int))) σ else none else none
 |_,_=>none
def Z5(x:XV)(i:Nat):Option XV:=
 match x with
 | .KK l=>match l[i]? with
  |some (.inl a)=>some (.c a)
  |some (.inr q)=>some (.agg q)
  |none=>none
 |_=>none
def EY(m:KY):AV→AV
 | .ref b (s::p)=>if m.contains (some b)then .undef else .ref b (s::p)
 | .win b (s::p) i n=>if m.contains (some b)then .undef else .win b (s::p) i n
 | .GZ b (s::p) i sz j=>if m.contains (some b)then .undef else .GZ b (s::p) i sz j
 |x=>x
def Nt(m:KY):XV→XV
 | .c x=> .c (EY m x)
 | .agg l=> .agg (l.map (EY m))
 | .KK l=> .KK (l.map fun| .inl x=> .inl (EY m x)| .inr q=> .inr (q.map (EY m)))
def oh(m:KY):Bx→Bx
 | .mem cs=> .mem (cs.map (EY m))
 |x=>x
def St.Q1(m:KY)(σ:St):St:=
 match m with
 |[]=>σ
 |_::_=>{ tm:=σ.tm.map (Nt m),bx:=σ.bx.map (oh m) }
def YZ(c:Ma)(args:List XV)(σ:St)(k:K Y):Option Y:=
 if args.length=c.ins.Cv.length then
  match c.ins.fit σ.bx.length c.ins.m0 args (c.ins.opens σ.bx)with
  |some (v,m)=>(c.g v).bind fun u=>
   let GQ:=Qd m (c.ins.opens σ.bx).length
   let σ1:=({ σ with bx:=c.ins.opens σ.bx }:St).Q1 m
   k (Ub c.outs.Cv u.1 GQ) { σ1 with bx:=RX GQ 0 c.outs.ES u.2 (B3 σ1.bx m) }
  |none=>none
 else none
def SU(σ:St)(x:XV)(k:K Y):Option Y:=
 match x with
 | .c (.win b [] off n)=>
  (Zs σ.bx (.win b [] off n)).bind fun s=>k (.c (.ref s.2.2.1.length [])) { σ with bx:=s.2.2.1++[.sl s.2.2.2 s.1 s.2.1] }
 |x=>k x σ
def gw(l:List XV):Option AAO:=
 match l with
 |[]=>some []
 | .c (.Fg b 0)::l=>(gw l).map fun r=>b::r
 |_=>none
def gH(big:Bool)(a b:XV)(k:AV→Option Y):Option Y:=
 match a,b with
 | .c (.v (.int j) x),.c (.v (.int j') y)=>
  if j=j' then(if big then k (.v (.int j) (if y>x then y else x))else k (.v (.int j) (if y<x then y else x)))else none
 |_,_=>none
def PF(T:GH)(Γ:Nat→Option Ma)(o:Oper)(σ:St)(k:K Y):Option Y:=
 match o.op with
 | .move x=>k (σ.ev x) σ
 | .assign x=>SU σ (σ.ev x) k
 | .pick c a b=>match σ.ev c with
  | .c (.v .bool x)=>oU x (σ.ev a) (σ.ev b) σ k
  |_=>none
 | .alloc t=>match GH.Wh T t with
  |some r=>k (.c (.Fg σ.bx.length 0)) (σ.new (.mem (SH r)))
  |none=>none
 | .box t x=>match T.get t with
  |some ti=>if(σ.ev x).cells.length=ti.size∧ti.size≠0∧(σ.ev x).cells.all AV.known=true then k (.c (.Fg σ.bx.length 0)) (σ.new (.mem (σ.ev x).cells))else none
  |none=>none
 | .build t parts=>match T.get t,GH.Wh T t with
  |some ⟨_,_,.st fs,_⟩,some r=>match VN T fs (SH r) (parts.toList.map fun q=>(q.1,σ.ev q.2))with
   |some cs=>k (.agg cs) σ
   |none=>none
  |_,_=>none
 | .buildSlice t n parts=>Lb T t n (parts.toList.map fun q=>(q.1,σ.ev q.2)) σ k
 | .load t a=>match Yn T t σ (σ.ev a)with
  |some x=>k x σ
  |none=>none
 | .store t a x=>match T.get t with
  |some ti=>if(σ.ev x).cells.length=ti.size∧ti.size≠0∧(σ.ev x).cells.all AV.known=true then(match LJ σ (σ.ev a) (σ.ev x)with
   |some σ=>k (.c .undef) σ
   |none=>none)else none
  |none=>none
 | .nilCheck x=>match σ.ev x with
  | .c (.Fg b j)=>k (.c (.Fg b j)) σ
  | .c (.GZ b p i sz j)=>k (.c (.GZ b p i sz j)) σ
  | .c (.KU s r y j)=>k (.c (.KU s r y j)) σ
  | .c (.fn f HI)=>k (.c (.fn f HI)) σ
  |_=>none
 | .binOp op t x y _=>hO T t op (σ.ev x) (σ.ev y) fun a=>k (.c a) σ
 | .unOp op _ x=>v7 op (σ.ev x) fun a=>k (.c a) σ
 | .convert s d x=>eO T s d σ (σ.ev x) k
 | .makeFunc (.func f) first HI=>if first.size=0 then(match gw (HI.toList.map σ.ev)with
  |some bs=>k (.c (.fn f bs)) σ
  |none=>none)else none
 | .makeSlice t l c=>du T t σ (σ.ev l) (σ.ev c) k
 | .slice t x lo hi none=>XW T t σ (σ.ev x) (lo.map σ.ev) (hi.map σ.ev) k
 | .fieldAddr t x f=>match gE T t (σ.ev x) f with
  |some y=>k y σ
  |none=>none
 | .field t x f=>match qB T t (σ.ev x) f with
  |some y=>k y σ
  |none=>none
 | .indexAddr t x i=>YB σ T t (σ.ev x) (σ.ev i) k
 | .index t x i=>PC T t σ (σ.ev x) (σ.ev i) k
 | .extract x i=>match Z5 (σ.ev x) i with
  |some y=>k y σ
  |none=>none
 | .call { callee:= .value f,args,.. }=>match σ.ev f with
  | .c (.fn f HI)=>match Γ f with
   |some c=>YZ c (args.toList.map σ.ev++HI.map fun b=> .c (.Fg b 0)) σ k
   |none=>none
  | .c (.cI f rows)=>match Γ f with
   |some c=>YZ c (args.toList.map σ.ev++rows.map fun q=> .c (.KU false q.1 q.2 0)) σ k
   |none=>none
  |_=>none
 | .call { callee:= .builtin .len,args,argTypes }=>match args.toList.map σ.ev,argTypes[0]? with
  |[.c (.v .str s)],some t=>if T.isStr t then k (.c (.v (.int .i64) (s.length:Int))) σ else none
  |[.c x],some t=>if T.uR t then(match lenOf σ.bx x with
   |some n=>k (.c (.v (.int .i64) (n:Int))) σ
   |none=>none)else none
  |_,_=>none
 | .call { callee:= .builtin .append,args,argTypes }=>match args.toList.map σ.ev with
  |[a,x]=>Uj T argTypes σ a x k
  |_=>none
 | .call { callee:= .builtin .clear,args,argTypes }=>match args.toList.map σ.ev with
  |[x]=>X0 T argTypes σ x k
  |_=>none
 | .call { callee:= .builtin .max,args,.. }=>match args.toList.map σ.ev with
  |[a,x]=>gH true a x fun a=>k (.c a) σ
  |_=>none
 | .call { callee:= .builtin .min,args,.. }=>match args.toList.map σ.ev with
  |[a,x]=>gH false a x fun a=>k (.c a) σ
  |_=>none
 |_=>none
end ops
end Go.Fw
end
section
namespace Go.Fw
section
variable{Y:Type}
structure Td where
 T:GH
 Γ:Nat→Option Ma
 hint:Nat→List Nat
def Vi(hint:AAO):XV→Bool
 | .c (.Fg b _)=>hint.contains b
 | .c (.GZ b _ _ _ _)=>hint.contains b
 | .c (.KU _ _ _ _)=>true
 |_=>false
def Wx(hint:AAO)(σ:St):Op→Bool
 | .assign x=>match σ.ev x with
  | .c (.win _ [] _ _)=>false
  |_=>true
 | .move _| .pick .. | .nilCheck _| .binOp .. | .unOp .. | .fieldAddr .. | .field .. | .indexAddr .. | .index .. | .extract .. | .build .. =>true
 | .slice _ _ _ _ none=>true
 | .load _ a=>Vi hint (σ.ev a)
 | .call { callee:= .builtin .len,.. }=>true
 | .call { callee:= .builtin .max,.. }=>true
 | .call { callee:= .builtin .min,.. }=>true
 |_=>false
def HC(Γ:Nat→Option Ma)(σ:St):Op→List Nat
 | .store _ a _=>match σ.ev a with
  | .c (.Fg b _)=>[b]
  | .c (.GZ b _ _ _ _)=>[b]
  |_=>[]
 | .call { callee:= .value f,args,.. }=>match σ.ev f with
  | .c (.fn f HI)=>match Γ f with
   |some c=>match c.ins.fit σ.bx.length c.ins.m0 (args.toList.map σ.ev++HI.map fun b=> .c (.Fg b 0)) (c.ins.opens σ.bx)with
    |some (_,m)=>m.filterMap id
    |none=>[]
   |none=>[]
  | .c (.cI f rows)=>match Γ f with
   |some c=>match c.ins.fit σ.bx.length c.ins.m0 (args.toList.map σ.ev++rows.map fun q=> .c (.KU false q.1 q.2 0)) (c.ins.opens σ.bx)with
    |some (_,m)=>m.filterMap id
    |none=>[]
   |none=>[]
  |_=>[]
 | .call { callee:= .builtin .clear,args,.. }=>match args.toList.map σ.ev with
  |[.c (.win b _ _ _)]=>[b]
  |_=>[]
 |_=>[]
def tt:XV:= .c (.v .bool true)
def ff:XV:= .c (.v .bool false)
def lG(C:Td)(ops:Array Oper)(o:Oper)(kn:St→Option Y)(σ:St):Option Y:=
 match o.guard with
 |none=>PF C.T C.Γ o σ fun x σ' =>kn (σ'.put o.dst x)
 |some (j,want)=>
  match(ops[j]?).bind (·.dst)with
  |some t=>
   match σ.tm[t]? with
   |some (.c (.v .bool b))=>
    let yes (σ:St):Option Y:=PF C.T C.Γ o σ fun x σ' =>kn (σ'.put o.dst x)
    let no (σ:St):Option Y:=kn (σ.put o.dst (.KK []))
    cond b ((if want then yes else no) (σ.put (some t) tt)) ((if want then no else yes) (σ.put (some t) ff))
   |some (.KK [])=>kn (σ.put o.dst (.KK []))
   |_=>none
  |none=>none
def fk(C:Td)(all:Array Oper):List Oper→(St→Option Y)→St→Option Y
 |[],kn,σ=>kn σ
 |o::rest,kn,σ=>lG C all o (fun σ' =>fk C all rest kn σ') σ
def lN(C:Td)(ops:Array Oper)(i:Nat)(kn:St→Option Y)(σ:St):Option Y:=
 match ops[i]? with
 |none=>none
 |some o=>lG C ops o kn σ
def YK(bx:List Bx)(b:Nat):Bool:=
 match bx[b]? with
 |some .dead=>true
 |some _=>false
 |none=>true
def idle(ops:Array Oper)(σ:St)(o:Oper):Bool:=
 match o.guard with
 |none=>false
 |some (j,want)=>
  match(ops[j]?).bind (·.dst)with
  |some t=>
   match σ.tm[t]? with
   |some (.c (.v .bool b))=>b !=want
   |some (.KK [])=>true
   |_=>false
  |none=>false
def Z_(hint:AAO)(ops:Array Oper)(listed:Array Bool)(σ:St)(i:Nat):Bool:=
 match ops[i]? with
 |some o=>(Wx hint σ o.op||idle ops σ o)&&Region.free .any ops listed i
 |none=>false
def e9(f:Nat→List Bool→Option Y):List Nat→List Bool→Option Y
 |[],_=>none
 |[i],ω=>f i ω
 |i::_::_,[]=>f i []
 |i::_::_,true::ω=>f i ω
 |_::j::r,false::ω=>e9 f (j::r) ω
def NS(C:Td)(hint:AAO)(ops:Array Oper)(kn:List Bool→St→Option Y):Nat→Array Bool→List Bool→St→Option Y
 |fuel,listed,ω,σ=>
  if hint.all (fun b=> !YK σ.bx b)then
   match Region.ready .any ops listed with
   |[]=>kn ω σ
   |rs=>
    match fuel with
    |0=>none
    |fuel+1=>
     match rs.find? (Z_ hint ops listed σ)with
     |some i=>lN C ops i (fun σ' =>NS C hint ops kn fuel (listed.setIfInBounds i true) ω σ') σ
     |none=>e9 (fun i ω=>
      match ops[i]? with
      |some o=>if(HC C.Γ σ o.op).all (fun b=> !hint.contains b)then lN C ops i (fun σ' =>NS C hint ops kn fuel (listed.setIfInBounds i true) ω σ') σ else none
      |none=>none) rs ω
  else none
def first:Code→Nat
 | .region id _ _=>id
 | .seq a _=>first a
 | .cond _ a _=>first a
 | .block _ a=>first a
 | .loop a=>first a
 | .scope a=>first a
 |_=>0
abbrev KN(Y:Type):=List Bool→St→Option Y
def run(C:Td)(J:Nat→St→Option Y):Code→KN Y→(Nat→KN Y)→KN Y→KN Y
 | .skip,kn,_,_,ω,σ=>kn ω σ
 | .region id ops draw,kn,_,_,ω,σ=>
  if draw then(if Region.noSelect ops then NS C (C.hint id) ops kn ops.size (Array.replicate ops.size false) ω σ else none)else fk C ops ops.toList (kn ω) σ
 | .seq a b,kn,kx,kr,ω,σ=>run C J a (fun ω σ=>run C J b kn kx kr ω σ) kx kr ω σ
 | .cond (.tmp t) a b,kn,kx,kr,ω,σ=>
  match σ.tm[t]? with
  |some (.c (.v .bool x))=>cond x (run C J a kn kx kr ω (σ.put (some t) tt)) (run C J b kn kx kr ω (σ.put (some t) ff))
  |_=>none
 | .block id body,kn,kx,kr,ω,σ=>run C J body kn (fun j ω σ=>if j=id then kn ω σ else kx j ω σ) kr ω σ
 | .loop body,_,_,_,_,σ=>J (first body) σ
 | .exit id,_,kx,_,ω,σ=>kx id ω σ
 | .ret,_,_,kr,ω,σ=>kr ω σ
 |_,_,_,_,_,_=>none
def find(C:Td)(J:Nat→St→Option Y)(ℓ :Nat):Code→KN Y→(Nat→KN Y)→KN Y→Option (KN Y)
 | .seq a b,kn,kx,kr=>
  match find C J ℓ a (fun ω σ=>run C J b kn kx kr ω σ) kx kr with
  |some f=>some f
  |none=>find C J ℓ b kn kx kr
 | .cond _ a b,kn,kx,kr=>
  match find C J ℓ a kn kx kr with
  |some f=>some f
  |none=>find C J ℓ b kn kx kr
 | .block id body,kn,kx,kr=>find C J ℓ body kn (fun j ω σ=>if j=id then kn ω σ else kx j ω σ) kr
 | .loop body,_,kx,kr=>
  if first body= ℓ then some (fun ω σ=>run C J body (fun _ σ=>J ℓ σ) kx kr ω σ)else find C J ℓ body (fun _ σ=>J (first body) σ) kx kr
 |_,_,_,_=>none
def rG(T:GH)(σ:St):ResultVar→Option XV
 | .tmp t=>σ.tm[t]?
 | .cell a t=>match σ.tm[a]? with
  |some x=>Yn T t σ x
  |none=>none
def iS:List XV→Option (List (AV ⊕ List AV))
 |[]=>some []
 | .c x::l=>(iS l).map fun r=> .inl x::r
 | .agg q::l=>(iS l).map fun r=> .inr q::r
 |_=>none
def Wr(T:GH)(σ:St)(rs:List ResultVar):Option XV:=
 match rs.mapM (rG T σ)with
 |some [x]=>some x
 |some l=>(iS l).map .KK
 |none=>none
def M9:Nat→Nat→List BP→KY
 |_,_,[]=>[]
 |i,n,p::l=>(match p with| .gone=>none|_=>if i<n then some i else none)::M9 (i+1) n l
def AV.Zx(b:Nat)(r:Ty)(rows:List r.D):AV→AV
 | .ref k []=>if k=b then .sl true r rows else .ref k []
 |x=>x
def XV.Zx(b:Nat)(r:Ty)(rows:List r.D):XV→XV
 | .c x=> .c (x.Zx b r rows)
 |x=>x
def Bx.Zx(b:Nat)(r:Ty)(rows:List r.D):Bx→Bx
 | .mem cs=> .mem (cs.map (AV.Zx b r rows))
 |x=>x
def St.Zx(b:Nat)(σ:St):St:=
 match σ.bx[b]? with
 |some (.sl _ r rows)=>{ tm:=σ.tm.map (XV.Zx b r rows),bx:=(σ.bx.set b .dead).map (Bx.Zx b r rows) }
 |_=>σ
def Ek:List AP→List AV→St→St
 | .sl true _::l,.ref b []::xs,σ=>Ek l xs (σ.Zx b)
 |_::l,_::xs,σ=>Ek l xs σ
 |_,_,σ=>σ
def Sh:List (AP ⊕ List AP)→List (AV ⊕ List AV)→St→St
 | .inl p::l,.inl x::xs,σ=>Sh l xs (Ek [p] [x] σ)
 | .inr p::l,.inr x::xs,σ=>Sh l xs (Ek p x σ)
 |_::l,_::xs,σ=>Sh l xs σ
 |_,_,σ=>σ
def z_:XP→XV→St→St
 | .c p,.c x,σ=>Ek [p] [x] σ
 | .agg l,.agg xs,σ=>Ek l xs σ
 | .KK l,.KK xs,σ=>Sh l xs σ
 |_,_,σ=>σ
def Xl(l:List (Nat×XP))(x:XV)(σ:St):St:=
 match l with
 |(_,p)::_=>z_ p x σ
 |[]=>σ
def dA(T:GH)(c:Ma)(rs:List ResultVar)(σ:St):Option c.outs.V:=
 (Wr T σ rs).bind fun x=>
  let σ:=Xl c.outs.Cv x σ
  (Wr T σ rs).bind fun x=>(c.outs.fit σ.bx.length (M9 0 c.ins.ES.length c.outs.ES) [x] (c.outs.opens σ.bx)).map fun q=>q.1
def Dl(C:Td)(c:Ma)(fn:Func)(J:Nat→St→Option c.outs.V)(ω:List Bool)(v:c.ins.V):Option c.outs.V:=
 match fn.body with
 |some code=>run C J code (fun _=>dA C.T c fn.results.toList) (fun _ _ _=>none) (fun _=>dA C.T c fn.results.toList) ω (c.ins.st fn.ntmps v)
 |none=>none
def Tt(C:Td)(c:Ma)(fn:Func)(J:Nat→St→Option c.outs.V)(ℓ :Nat)(ω:List Bool)(σ:St):Option c.outs.V:=
 match fn.body with
 |some code=>
  match find C J ℓ code (fun _=>dA C.T c fn.results.toList) (fun _ _ _=>none) (fun _=>dA C.T c fn.results.toList)with
  |some f=>f ω σ
  |none=>none
 |none=>none
def Kh(bs:List BP):List (Nat×XP)→St→St
 |[],σ=>σ
 |(i,.c (.sl true r))::l,σ=>
  match σ.tm[i]? with
  |some (.c x)=>Kh bs l (Ek [.sl true r] [x] σ)
  |_=>Kh bs l σ
 |(i,.c (.ptr k _))::l,σ=>
  match bs[k]?,σ.tm[i]? with
  |some (.mem ps),some (.c (.Fg b _))=>
   match σ.bx[b]? with
   |some (.mem cs)=>Kh bs l (Ek ps cs σ)
   |_=>Kh bs l σ
  |_,_=>Kh bs l σ
 |_::l,σ=>Kh bs l σ
def AV.dr:AV→Bool
 | .ref _ _| .win _ _ _ _| .sl _ _ _| .nil=>true
 |_=>false
def St.forget(b j:Nat)(σ:St):St:=
 match σ.bx[b]? with
 |some (.mem cs)=>
  match cs[j]? with
  |some x=>if x.dr then{ σ with bx:=σ.bx.set b (.mem (cs.set j (.ref σ.bx.length [])))++[.dead] }else σ
  |none=>σ
 |_=>σ
def Pn(bs:List BP)(b:Nat):Nat→List AP→St→St
 |_,[],σ=>σ
 |j,p::l,σ=>Pn bs b (j+1) l (match p with
  | .ref q=>match bs[q]? with
   |some .gone=>σ.forget b j
   |_=>σ
  |_=>σ)
def UA(bs:List BP):List (Nat×XP)→St→St
 |[],σ=>σ
 |(i,p)::l,σ=>UA bs l (match p with
  | .c (.ptr k _)=>match bs[k]?,σ.tm[i]? with
   |some (.mem ps),some (.c (.Fg b _))=>Pn bs b 0 ps σ
   |_,_=>σ
  |_=>σ)
def jump(nb:Nat)(s:Bg)(f:s.V→Option Y)(σ:St):Option Y:=
 if nb≤s.ES.length then
  let σ:=UA s.ES s.Cv (Kh s.ES s.Cv σ)
  (s.fit σ.bx.length (M9 0 nb s.ES) σ.tm (s.opens σ.bx)).bind fun q=>f q.1
 else none
end
end Go.Fw
end
section
namespace Go.Fw
def A_(w:World)(b o:Nat)(cs:List Value):Prop:= ∀j v,cs[j]? =some v→w.cell? ⟨b,o+j,none⟩=some v
def Rd(w:World)(B:Nat→Prop):(t:Ty)→List Value→t.D→Prop
 | .int k,vs,x=>vs=[.int k x]
 | .bool,vs,x=>vs=[.bool x]
 | .str,vs,x=>vs=[.string ⟨x.toArray⟩]
 | .sl r,vs,x=> ∃a cap,vs=[.slice a (List.length x) cap]∧List.length x≤cap∧(List.length x=0∨ ∃b o,a=some ⟨b,o,none⟩∧B b∧
  ∀(i:Nat) (y:r.D),x[i]? =some y→ ∃cs,cs.length=r.n∧A_ w b (o+i*r.n) cs∧Rd w B r cs y)
 | .unit,vs,_=>vs=[]
 | .cons c r,vs,x=> ∃v l,vs=v::l∧Rd w B c [v] x.1∧Rd w B r l x.2
def ga(fr:ACN)(n:Nat):Prop:= ∀i,i<n→ ¬(fr.1≤i∧i<fr.2)
def mk:Ty→Nat
 | .int .u8=>0
 |_=>1
def Ow(w:World)(S:Nat→Prop):(d:Nat)→(t:Ty)→List Value→t.D→List Nat→Prop
 |0,.sl r,vs,x,F=>Rd w S (.sl r) vs x∧F=[]
 |d+1,.sl r,vs,x,F=> ∃a cap,vs=[.slice a (List.length x) cap]∧List.length x≤cap∧
  ((
   cap=0∧F=[])∨ ∃b o arr ty fr Fs,a=some ⟨b,o,none⟩∧w.heap[b]? =some (.cells arr ty fr)∧o+cap*r.n≤arr.size∧ga fr (arr.size+mk r)∧
   F=b::List.flatten Fs∧Fs.length=List.length x∧
   ∀(i:Nat) (y:r.D) (G:AAO),x[i]? =some y→Fs[i]? =some G→ ∃cs,cs.length=r.n∧A_ w b (o+i*r.n) cs∧Ow w S d r cs y G)
 |d,.cons c r,vs,x,F=> ∃v l F1 F2,vs=v::l∧F=F1++F2∧Ow w S d c [v] x.1 F1∧Ow w S d r l x.2 F2
 |_,.unit,vs,_,F=>vs=[]∧F=[]
 |_,.int k,vs,x,F=>vs=[.int k x]∧F=[]
 |_,.bool,vs,x,F=>vs=[.bool x]∧F=[]
 |_,.str,vs,x,F=>vs=[.string ⟨x.toArray⟩]∧F=[]
theorem Xd{w B}:∀{t:Ty} {vs x},Rd w B t vs x→vs.length=t.n
 | .int _,_,_,h=>by simp only[Rd]at h;subst h;rfl
 | .bool,_,_,h=>by simp only[Rd]at h;subst h;rfl
 | .str,_,_,h=>by simp only[Rd]at h;subst h;rfl
 | .sl _,_,_,h=>by simp only[Rd]at h;obtain⟨_,_,h,_⟩:=h;subst h;rfl
 | .unit,_,_,h=>by simp only[Rd]at h;subst h;rfl
 | .cons _ _,_,_,h=>by
  simp only[Rd]at h;obtain⟨_,_,rfl,_,h⟩:=h;simp[Ty.n,Xd h]
theorem PJ{w S}:∀{d} {t:Ty} {vs x F},Ow w S d t vs x F→vs.length=t.n
 |_,.int _,_,_,_,h=>by simp only[Ow]at h;rw[h.1];rfl
 |_,.bool,_,_,_,h=>by simp only[Ow]at h;rw[h.1];rfl
 |_,.str,_,_,_,h=>by simp only[Ow]at h;rw[h.1];rfl
 |0,.sl _,_,_,_,h=>by grind[Ow,Xd]
 |_+1,.sl _,_,_,_,h=>by simp only[Ow]at h;obtain⟨_,_,h,_⟩:=h;subst h;rfl
 |_,.unit,_,_,_,h=>by simp only[Ow]at h;rw[h.1];rfl
 |_,.cons _ _,_,_,_,h=>by
  simp only[Ow]at h;obtain⟨_,_,_,_,rfl,_,_,h⟩:=h;simp[Ty.n,PJ h]
theorem A_.of_block{w w':World}{b o:Nat}{cs:List Value}(h:A_ w b o cs)(hb:w'.heap[b]? =w.heap[b]?):A_ w' b o cs:=
 fun j v hj=>(World.cell?_of_block (a:=⟨b,o+j,none⟩) hb).trans (h j v hj)
theorem D8{w w':World}{B B':Nat→Prop}(hB:∀b,B b→B' b)(hw:∀b,B b→w'.heap[b]? =w.heap[b]?):∀{t:Ty} {vs x},Rd w B t vs x→Rd w' B' t vs x
 | .int _,_,_,h=>by grind[Rd]
 | .bool,_,_,h=>by grind[Rd]
 | .str,_,_,h=>by grind[Rd]
 | .unit,_,_,h=>by grind[Rd]
 | .sl r,_,_,h=>by
  simp only[Rd]at h⊢;obtain⟨a,cap,h1,h2,h3⟩:=h;refine⟨a,cap,h1,h2,h3.imp id ?_⟩
  rintro⟨b,o,ha,hb,h⟩
  refine⟨b,o,ha,hB b hb,fun i y hy=> ?_⟩;obtain⟨cs,hl,hc,hr⟩:=h i y hy;exact⟨cs,hl,hc.of_block (hw b hb),D8 hB hw hr⟩
 | .cons _ _,_,_,h=>by
  simp only[Rd]at h⊢;obtain⟨v,l,h1,h2,h3⟩:=h;exact⟨v,l,h1,D8 hB hw h2,D8 hB hw h3⟩
theorem DK{w w':World}{S S':Nat→Prop}(hS:∀b,S b→S' b)(hw:∀b,S b→w'.heap[b]? =w.heap[b]?):
  ∀{d} {t:Ty} {vs x F},(∀b∈F,w'.heap[b]? =w.heap[b]?)→Ow w S d t vs x F→Ow w' S' d t vs x F
 |_,.int _,_,_,_,_,h=>by grind[Ow]
 |_,.bool,_,_,_,_,h=>by grind[Ow]
 |_,.str,_,_,_,_,h=>by grind[Ow]
 |_,.unit,_,_,_,_,h=>by grind[Ow]
 |0,.sl r,_,_,_,_,h=>by
  grind[Ow,D8]
 |d+1,.sl r,_,x,F,hF,h=>by
  simp only[Ow]at h⊢;obtain⟨a,cap,h1,h2,h3⟩:=h;refine⟨a,cap,h1,h2,h3.imp id ?_⟩
  rintro⟨b,o,arr,ty,fr,Fs,ha,hb,h4,h5,h6,h7,h⟩
  subst h6;have uZ:=hF b (by simp);refine⟨b,o,arr,ty,fr,Fs,ha,uZ.trans hb,h4,h5,rfl,h7,fun i y G hy hG=> ?_⟩;obtain⟨cs,hl,hc,hr⟩:=h i y G hy hG;refine⟨cs,hl,hc.of_block uZ,DK hS hw (fun c hc=>hF c ?_) hr⟩;grind[List.mem_cons_of_mem,List.mem_flatten,List.mem_of_getElem?]
 |_,.cons _ _,_,_,_,hF,h=>by
  simp only[Ow]at h⊢;obtain⟨v,l,F1,F2,h1,h2,h3,h4⟩:=h;subst h2;exact⟨v,l,F1,F2,h1,rfl,DK hS hw (fun c hc=>hF c (by simp[hc])) h3,DK hS hw (fun c hc=>hF c (by simp[hc])) h4⟩
theorem P4{w:World}{S:Nat→Prop}:∀{d} {t:Ty} {vs x F},Ow w S d t vs x F→Rd w (fun b=>S b∨b∈F) t vs x
 |_,.int _,_,_,_,h=>by grind[Ow,Rd]
 |_,.bool,_,_,_,h=>by grind[Ow,Rd]
 |_,.str,_,_,_,h=>by grind[Ow,Rd]
 |_,.unit,_,_,_,h=>by grind[Ow,Rd]
 |0,.sl r,_,_,_,h=>by
  simp only[Ow]at h;simp_all
 |d+1,.sl r,_,x,F,h=>by
  simp only[Ow]at h;simp only[Rd];obtain⟨a,cap,h1,h2,h3⟩:=h;refine⟨a,cap,h1,h2,?_⟩;rcases h3 with⟨hc,_⟩|⟨b,o,arr,ty,fr,Fs,ha,hb,h4,h5,h6,h7,h⟩
  ·omega
  ·refine .inr ⟨b,o,ha,.inr (by simp[h6]),fun i y hy=> ?_⟩
   have hi:i<Fs.length:=by
    grind
   obtain⟨cs,hl,hc,hr⟩:=h i y Fs[i] hy (AEX hi);refine⟨cs,hl,hc,D8 ?_ (fun _ _=>rfl) (P4 hr)⟩;grind[List.mem_cons_of_mem,List.mem_flatten,List.getElem_mem]
 |_,.cons _ _,_,_,_,h=>by
  simp only[Ow]at h;simp only[Rd];obtain⟨v,l,F1,F2,h1,h2,h3,h4⟩:=h;subst h2;refine⟨v,l,h1,D8 ?_ (fun _ _=>rfl) (P4 h3),D8 ?_ (fun _ _=>rfl) (P4 h4)⟩
  all_goals grind
theorem Gq{w:World}{S:Nat→Prop}:∀{d d'} {t:Ty} {vs x F},d≤d'→Ow w S d' t vs x F→
  ∃F1 F2,F.Perm (F1++F2)∧Ow w (fun b=>S b∨b∈F2) d t vs x F1
 |_,_,.int _,_,_,_,_,h=>by simp only[Ow]at h⊢;simp_all
 |_,_,.bool,_,_,_,_,h=>by simp only[Ow]at h⊢;simp_all
 |_,_,.str,_,_,_,_,h=>by simp only[Ow]at h⊢;simp_all
 |_,_,.unit,_,_,_,_,h=>by simp only[Ow]at h⊢;simp_all
 |0,d',.sl r,_,x,F,_,h=>by
  refine⟨[],F,by simp,?_⟩;simp only[Ow];exact⟨P4 h,trivial⟩
 |d+1,0,.sl r,_,x,F,hd,h=>by omega
 |d+1,d'+1,.sl r,_,x,F,hd,h=>by
  simp only[Ow]at h⊢;obtain⟨a,cap,h1,h2,h3⟩:=h;rcases h3 with⟨hc,hF⟩|⟨b,o,arr,ty,fr,Fs,ha,hb,h4,h5,h6,h7,h⟩
  ·simp_all
  ·have key:∀(n:Nat) (Fs:List AAO) (y:List r.D),Fs.length=n→y.length=n→(∀(i:Nat) (z:r.D) (G:AAO),y[i]? =some z→Fs[i]? =some G→ ∃cs,cs.length=r.n∧A_ w b (o+i*r.n) cs∧Ow w S d' r cs z G)→
     ∃(Gs:List AAO) (F2:AAO),Fs.flatten.Perm (Gs.flatten++F2)∧Gs.length=n∧ ∀(i:Nat) (z:r.D) (G:AAO),y[i]? =some z→Gs[i]? =some G→ ∃cs,cs.length=r.n∧A_ w b (o+i*r.n) cs∧Ow w (fun b=>S b∨b∈F2) d r cs z G:=by
    intro n
    induction n with
    |zero=>
     simp_all
    |succ n ih=>
     intro Fs y hF hy hh;obtain⟨Fs',G0,rfl⟩:∃l a,Fs=l++[a]:=⟨Fs.dropLast,Fs.getLast (by grind),(List.dropLast_concat_getLast _).symm⟩;obtain⟨y',z0,rfl⟩:∃l a,y=l++[a]:=⟨y.dropLast,y.getLast (by grind),(List.dropLast_concat_getLast _).symm⟩;simp only[AGP,AFq,AG6]at hF hy;obtain⟨Gs,F2,hp,hl,hg⟩:=ih Fs' y' (by omega) (by omega) (fun i z G hz hG=>hh i z G
      (by grind) (by grind))
     obtain⟨cs,cO,hc,ho⟩:=hh n z0 G0 (by simp_all) (by simp_all);obtain⟨H1,H2,hhp,hho⟩:=Gq (d:=d) (d':=d') (by omega) ho;refine⟨Gs++[H1],F2++H2,?_,by simp[hl],?_⟩
     ·grind
     ·intro i z G hz hG
      by_cases hi:i<n
      ·rw[AFy (by omega)]at hz hG
       obtain⟨cs,e1,e2,e3⟩:=hg i z G hz hG;exact⟨cs,e1,e2,DK (by grind) (fun _ _=>rfl) (fun _ _=>rfl) e3⟩
      ·have:i=n:=by
        grind
       subst this;rw[AF_ (by omega)]at hz hG;simp[show i-y'.length=0 by omega,show i-Gs.length=0 by omega]at hz hG;subst hz hG;exact⟨cs,cO,hc,DK (by grind) (fun _ _=>rfl) (fun _ _=>rfl) hho⟩
   obtain⟨Gs,F2,hp,hl,hg⟩:=key _ Fs x h7 rfl h;refine⟨b::Gs.flatten,F2,?_,a,cap,h1,h2,.inr ⟨b,o,arr,ty,fr,Gs,ha,hb,h4,h5,rfl,hl,hg⟩⟩;simp_all
 |d,d',.cons _ _,_,_,_,hd,h=>by
  simp only[Ow]at h⊢;obtain⟨v,l,F1,F2,h1,h2,h3,h4⟩:=h;obtain⟨A1,A2,pa,oa⟩:=Gq hd h3;obtain⟨B1,B2,pb,ob⟩:=Gq hd h4;refine⟨A1++B1,A2++B2,?_,v,l,A1,B1,h1,rfl,DK (by grind) (fun _ _=>rfl) (fun _ _=>rfl) oa,DK (by grind) (fun _ _=>rfl) (fun _ _=>rfl) ob⟩;grind
def RB(w:World):(t:Ty)→List Value→t.D→Nat→Prop
 | .sl r,vs,x,c=> ∃b o len cap,vs=[.slice (some ⟨b,o,none⟩) len cap]∧0<List.length x∧
  (c=b∨ ∃(i:Nat) (y:r.D) (cs:List Value),x[i]? =some y∧cs.length=r.n∧A_ w b (o+i*r.n) cs∧RB w r cs y c)
 | .cons c r,vs,x,d=> ∃v l,vs=v::l∧(RB w c [v] x.1 d∨RB w r l x.2 d)
 |_,_,_,_=>False
theorem A_.unique{w:World}{b o:Nat}{cs ds:List Value}(h:A_ w b o cs)(k:A_ w b o ds)(hl:cs.length=ds.length):cs=ds:=by
 apply List.ext_getElem hl;intro i h1 h2;have e1:=h i _ (AEX h1);have e2:=k i _ (AEX h2);simp_all
theorem fU{w:World}{B:Nat→Prop}{c:Nat}:∀{t:Ty} {vs x},Rd w B t vs x→RB w t vs x c→B c
 | .int _,_,_,_,h=>by simp[RB]at h
 | .bool,_,_,_,h=>by simp[RB]at h
 | .str,_,_,_,h=>by simp[RB]at h
 | .unit,_,_,_,h=>by simp[RB]at h
 | .sl r,_,x,h,k=>by
  simp only[Rd]at h;simp only[RB]at k;obtain⟨a,cap,rfl,_,h⟩:=h;obtain⟨b,o,len,cap',e,hl,k⟩:=k;simp only[AGv,Value.slice.injEq,AHM]at e;obtain⟨rfl,rfl,rfl⟩:=e;rcases h with h|⟨b',o',e,hb,h⟩
  ·omega
  simp only[AEY,Addr.mk.injEq,AHM]at e;obtain⟨rfl,rfl⟩:=e;rcases k with rfl|⟨i,y,cs,hy,cO,yb,k⟩
  ·omega
  ·obtain⟨ds,d1,d2,d3⟩:=h i y hy
   have:=yb.unique d2 (by omega);subst this;exact fU d3 k
 | .cons _ _,_,_,h,k=>by
  simp only[Rd]at h;simp only[RB]at k;obtain⟨v,l,rfl,h1,h2⟩:=h;obtain⟨v',l',e,k⟩:=k;cases e;exact k.elim (fU h1) (fU h2)
theorem Zf{w w':World}{c:Nat}:∀{t:Ty} {vs x},(∀d,RB w t vs x d→w'.heap[d]? =w.heap[d]?)→RB w t vs x c→RB w' t vs x c
 | .int _,_,_,_,h=>by simp[RB]at h
 | .bool,_,_,_,h=>by simp[RB]at h
 | .str,_,_,_,h=>by simp[RB]at h
 | .unit,_,_,_,h=>by simp[RB]at h
 | .sl r,_,x,h,k=>by
  simp only[RB]at h k⊢;obtain⟨b,o,len,cap,e,hl,k⟩:=k;refine⟨b,o,len,cap,e,hl,?_⟩;rcases k with rfl|⟨i,y,cs,hy,cO,yb,k⟩
  ·omega
  ·have hb:=h b ⟨b,o,len,cap,e,hl,.inl rfl⟩
   exact .inr ⟨i,y,cs,hy,cO,yb.of_block hb,Zf (fun d hd=>h d ⟨b,o,len,cap,e,hl,.inr ⟨i,y,cs,hy,cO,yb,hd⟩⟩) k⟩
 | .cons _ _,_,_,h,k=>by
  simp only[RB]at h k⊢;obtain⟨v,l,e,k⟩:=k;refine⟨v,l,e,k.elim (fun k=> .inl (Zf (fun d hd=>h d ⟨v,l,e,.inl hd⟩) k)) (fun k=> .inr (Zf (fun d hd=>h d ⟨v,l,e,.inr hd⟩) k))⟩
end Go.Fw
end
section
namespace Go.Fw
def Bh{α β:Type}(R:α→β→Prop):List α→List β→Prop
 |[],[]=>True
 |a::l,b::m=>R a b∧Bh R l m
 |_,_=>False
theorem Bh.len{α β:Type}{R:α→β→Prop}:∀{l:List α} {m:List β},Bh R l m→l.length=m.length
 |[],[],_=>rfl
 |_::_,_::_,h=>by simp[Bh.len h.2]
theorem Bh.get{α β:Type}{R:α→β→Prop}:∀{l:List α} {m:List β} {i:Nat} {a:α},Bh R l m→l[i]? =some a→ ∃b,m[i]? =some b∧R a b
 |_::_,_::_,0,a,h,e=>by simp at e;subst e;exact⟨_,rfl,h.1⟩
 |_::_,_::_,i+1,a,h,e=>by
  obtain⟨b,hb,hr⟩:=Bh.get (i:=i) h.2 (by simpa using e);simp_all
 |[],[],_,_,_,e=>by simp at e
theorem Bh.imp{α β:Type}{R S:α→β→Prop}(h:∀a b,R a b→S a b):∀{l:List α} {m:List β},Bh R l m→Bh S l m
 |[],[],_=>trivial
 |_::_,_::_,k=>⟨h _ _ k.1,Bh.imp h k.2⟩
structure Env where
 FH:Nat→Nat
 FG:Nat→Value
 T:Nat→Prop
 S:Nat→Prop
def F4(w:World):Value→List O7→Option Value
 |h,[]=>some h
 | .slice (some a) _ _,s::p=>
  match w.cell? ⟨a.block,a.off+s.i*s.sz+s.j,none⟩with
  |some h=>F4 w h p
  |none=>none
 |_,_::_=>none
def CK:(r:Ty)→List r.D→List O7→Prop
 |_,_,[]=>True
 |r,rows,s::p=>s.i<rows.length∧s.sz=r.n∧
  match Az r s.j (rowAt r rows s.i)with
  |some ⟨.sl q,x⟩=>CK q x p
  |_=>False
def OE(sz off n:Nat)(a:Option Addr)(cap:Nat):Value:=
 .slice (if cap=off then a else a.map (·.add (off*sz))) n (cap-off)
def isSlice:Value→Bool
 | .slice .. =>true
 |_=>false
def TB:Value→Bool
 | .pointer (some ⟨_,_,none⟩)=>true
 |_=>false
def RA(E:Env)(w:World)(q:(r:Ty)×r.D)(p:Value):Prop:= ∃bb o cs,p= .pointer (some ⟨bb,o,none⟩)∧E.T bb∧cs.length=q.1.n∧A_ w bb o cs∧Rd w E.T q.1 cs q.2
def VR(E:Env)(w:World)(vw:List Bx):AV→Value→Prop
 | .v t x,v=>t.scalar=true∧Rd w (fun _=>False) t [v] x
 | .sl s r x,v=>Rd w (if s then E.S else E.T) (.sl r) [v] x
 | .nil,v=>v= .slice none 0 0
 | .ref b p,v=>isSlice v=true∧match vw[b]? with
  |some (.sl _ r rows)=>CK r rows p∧(∃q,Eh r rows p=some q)∧F4 w (E.FG b) p=some v
  |some _=>True
  |none=>False
 | .win b p off n,v=>isSlice v=true∧match vw[b]? with
  |some (.sl _ r rows)=>CK r rows p∧ ∃q ys a len cap,Eh r rows p=some ⟨q,ys⟩∧off+n≤List.length ys∧F4 w (E.FG b) p=some (.slice a len cap)∧v=OE q.n off n a cap
  |some _=>True
  |none=>False
 | .Fg b j,v=>b<vw.length∧v= .pointer (some ⟨E.FH b,j,none⟩)
 | .GZ b p i sz j,v=>TB v=true∧match vw[b]? with
  |some (.sl _ r rows)=>CK r rows p∧ ∃q ys bb o len cap,Eh r rows p=some ⟨q,ys⟩∧i<List.length ys∧F4 w (E.FG b) p=some (.slice (some ⟨bb,o,none⟩) len cap)∧v= .pointer (some ⟨bb,o+i*sz+j,none⟩)
  |some _=>True
  |none=>False
 | .KU s r x j,v=> ∃bb o cs,v= .pointer (some ⟨bb,o+j,none⟩)∧(if s then E.S else E.T) bb∧cs.length=r.n∧A_ w bb o cs∧Rd w (if s then E.S else E.T) r cs x
 | .fn f HI,v=>(∀b∈HI,b<vw.length)∧v= .func (.func f) #[] (HI.map fun b=>Value.pointer (some ⟨E.FH b,0,none⟩)).toArray
 | .cI f rows,v=> ∃ps:List Value,v= .func (.func f) #[] ps.toArray∧Bh (RA E w) rows ps
 | .kj,v=>v= .pointer none
 | .undef,_=>True
def XO(E:Env)(w:World)(vw:List Bx)(l:List AV)(vs:List Value):Prop:=Bh (VR E w vw) l vs
def TR(E:Env)(w:World)(vw:List Bx):AV ⊕ List AV→Value→Prop
 | .inl x,v=>VR E w vw x v
 | .inr q,v=> ∃vs,v= .agg vs∧XO E w vw q vs.toList
def XR(E:Env)(w:World)(vw:List Bx):XV→Value→Prop
 | .c x,v=>VR E w vw x v
 | .agg l,v=> ∃vs,v= .agg vs∧XO E w vw l vs.toList
 | .KK l,v=> ∃vs,v= .tuple vs∧Bh (TR E w vw) l vs.toList
def bE(E:Env)(w:World)(vw:List Bx)(k:Nat):Bx→List Nat→Prop
 | .mem cs,F=>F=[E.FH k]∧ ∃arr ty fr,w.heap[E.FH k]? =some (.cells arr ty fr)∧ga fr (arr.size+1)∧XO E w vw cs arr.toList
 | .sl d r rows,F=>1≤d∧Ow w E.S d (.sl r) [E.FG k] rows F
 | .dead,F=>F=[]
structure Sep (E:Env) (w:World) (F:AAO):Prop where
 nodup:F.Nodup
 free:∀c∈F,¬E.T c
 lt:∀c∈F,c<w.heap.size
 st:∀c,E.S c→E.T c
 TQ:∀c,E.T c→c<w.heap.size
def JF(E:Env)(w:World)(vw bx:List Bx)(Fs:List AAO):Prop:=
 Fs.length=bx.length∧ ∀k B F,bx[k]? =some B→Fs[k]? =some F→bE E w vw k B F
def CD(E:Env)(w:World)(vw bx:List Bx)(G:AAO):Prop:=
 ∃Fs,JF E w vw bx Fs∧Sep E w (Fs.flatten++G)
structure Le (E E':Env):Prop where
 FH:E'.FH=E.FH
 FG:E'.FG=E.FG
 T:∀c,E.T c→E'.T c
 S:∀c,E.S c→E'.S c
 sx:∀c,E'.T c→E.T c∨E'.S c
 lM:∀c,E'.S c→E.S c∨ ¬E.T c
theorem Le.refl(E:Env):Le E E:=⟨rfl,rfl,fun _ h=>h,fun _ h=>h,fun _ h=> .inl h,fun _ h=> .inl h⟩
theorem Le.trans{E E' qX:Env}(h:Le E E')(k:Le E' qX):Le E qX:=
 ⟨k.FH.trans h.FH,k.FG.trans h.FG,fun c hc=>k.T c (h.T c hc),fun c hc=>k.S c (h.S c hc),
  fun c hc=>(k.sx c hc).elim (fun h' =>(h.sx c h').imp id (k.S c)) .inr,
  fun c hc=>(k.lM c hc).elim (h.lM c) (fun h' => .inr fun ht=>h' (h.T c ht))⟩
theorem Uk{w B}:∀{r:Ty} {cs x j t y},Rd w B r cs x→Az r j x=some ⟨t,y⟩→ ∃v,cs[j]? =some v∧Rd w B t [v] y
 | .cons c r,cs,x,0,t,y,h,e=>by
  simp only[Rd]at h;obtain⟨v,l,rfl,h1,h2⟩:=h;simp only[Az,AEY,AFU]at e;grind
 | .cons c r,cs,x,j+1,t,y,h,e=>by
  simp only[Rd]at h;obtain⟨v,l,rfl,h1,h2⟩:=h;simp only[Az]at e;obtain⟨u,hu,hr⟩:=Uk h2 e;simp_all
 | .int k,cs,x,0,t,y,h,e=>by
  simp only[Az,AEY,AFU]at e;obtain⟨rfl,e⟩:=e;obtain rfl:=AGy e;simp only[Rd]at h;subst h;exact⟨_,rfl,by rfl⟩
 | .bool,cs,x,0,t,y,h,e=>by
  simp only[Az,AEY,AFU]at e;obtain⟨rfl,e⟩:=e;obtain rfl:=AGy e;simp only[Rd]at h;subst h;exact⟨_,rfl,by rfl⟩
 | .str,cs,x,0,t,y,h,e=>by
  simp only[Az,AEY,AFU]at e;obtain⟨rfl,e⟩:=e;obtain rfl:=AGy e;simp only[Rd]at h;subst h;exact⟨_,rfl,by rfl⟩
 | .sl r,cs,x,0,t,y,h,e=>by
  simp only[Az,AEY,AFU]at e;obtain⟨rfl,e⟩:=e;obtain rfl:=AGy e;have h':=h;simp only[Rd]at h;grind
 | .unit,_,_,_,_,_,_,e=>by simp[Az]at e
 | .int _,_,_,_+1,_,_,_,e=>by simp[Az]at e
 | .bool,_,_,_+1,_,_,_,e=>by simp[Az]at e
 | .str,_,_,_+1,_,_,_,e=>by simp[Az]at e
 | .sl _,_,_,_+1,_,_,_,e=>by simp[Az]at e
theorem Lg{r:Ty}{rows:List r.D}{i:Nat}(h:i<rows.length):rows[i]? =some (rowAt r rows i):=by
 simp[rowAt,h]
theorem Zp{w:World}{B:Nat→Prop}:∀{p:List O7} {r:Ty} {h:Value} {rows:List r.D} {q:Ty} {ys:List q.D},
  Rd w B (.sl r) [h] rows→CK r rows p→Eh r rows p=some ⟨q,ys⟩→
  ∃h',(∀w':World,(∀b,B b→w'.heap[b]? =w.heap[b]?)→F4 w' h p=some h')∧Rd w B (.sl q) [h'] ys
 |[],r,h,rows,q,ys,hr,_,hg=>by
  simp only[Eh,AEY,AFU]at hg;obtain⟨rfl,e⟩:=hg;obtain rfl:=AGy e;exact⟨h,fun w' _=>by rfl,hr⟩
 |s::p,r,h,rows,q,ys,hr,hp,hg=>by
  simp only[CK]at hp;obtain⟨hi,KS,hp⟩:=hp;simp only[Eh]at hg;simp only[Rd]at hr;obtain⟨a,cap,hh,_,hr⟩:=hr;obtain rfl:=(List.cons.inj hh).1;rcases hr with hr|⟨b,o,rfl,hb,hr⟩
  ·omega
  obtain⟨cs,hl,hc,hrow⟩:=hr s.i _ (Lg hi);split at hg
  ·rename_i q' x' Vj
   rw[Vj]at hp;obtain⟨v,hv,hrv⟩:=Uk hrow Vj;obtain⟨h',hh',P_⟩:=Zp hrv hp hg;refine⟨h',fun w' dt=> ?_,P_⟩;simp only[F4];have RL:w'.cell? ⟨b,o+s.i*s.sz+s.j,none⟩=some v:=by
    rw[KS];exact(World.cell?_of_block (a:=⟨b,_,none⟩) (dt b hb)).trans (hc _ _ hv)
   simp_all
  simp_all
theorem CI{w:World}{h:Value}:F4 w h []=some h:=by rfl
structure Mb (E:Env) (w:World) (vw:List Bx) (E':Env) (w':World) (vw':List Bx):Prop where
 len:vw.length≤vw'.length
 FH:∀b,b<vw.length→E'.FH b=E.FH b
 T:∀b,E.T b→E'.T b
 S:∀b,E.S b→E'.S b
 st:∀b,E.S b→E.T b
 heap:∀b,E.T b→w'.heap[b]? =w.heap[b]?
 box:∀b d r rows,b<vw.length→vw'[b]? =some (.sl d r rows)→ ∃d0 MJ,vw[b]? =some (.sl d0 r MJ)∧
  ∀p,CK r MJ p→ ∀q ys,Eh r MJ p=some ⟨q,ys⟩→CK r rows p∧(∃gX,Eh r rows p=some ⟨q,gX⟩∧List.length gX=List.length ys)∧
   ∀h,F4 w (E.FG b) p=some h→F4 w' (E'.FG b) p=some h
theorem KX{α:Type}{l l':List α}{b:Nat}{x:α}(h:l.length≤l'.length)(e:l[b]? =some x):∃y,l'[b]? =some y:=
 ⟨l'[b]'(AHG (AEy.1 e).1 h),AEX _⟩
theorem EN{E E':Env}{w w':World}{vw vw':List Bx}(k:Mb E w vw E' w' vw'):∀{x:AV} {v:Value},VR E w vw x v→VR E' w' vw' x v:=by
 intro x v h;cases x with
 |v t x=>exact⟨h.1,D8 (fun _ h=>h) (fun _ h=>h.elim) h.2⟩
 |sl s r x=>
  simp only[VR]at h⊢;cases s with
  |false=>exact D8 k.T k.heap (by simp_all)
  |true=>exact D8 k.S (fun b hb=>k.heap b (k.st b hb)) (by simp_all)
 |nil=>exact h
 |ref b p=>
  simp only[VR]at h⊢;obtain⟨h0,h⟩:=h;refine⟨h0,?_⟩;cases e:vw[b]? with
  |none=>simp_all
  |some B=>
   rw[e]at h;have IV:=(AEy.1 e).1;obtain⟨B',e'⟩:=KX k.len e;rw[e'];cases B' with
   |mem cs=>trivial
   |dead=>trivial
   |sl d r rows=>
    obtain⟨d0,MJ,e0,hk⟩:=k.box b d r rows IV e';grind
 |win b p off n=>
  simp only[VR]at h⊢;obtain⟨h0,h⟩:=h;refine⟨h0,?_⟩;cases e:vw[b]? with
  |none=>simp_all
  |some B=>
   rw[e]at h;have IV:=(AEy.1 e).1;obtain⟨B',e'⟩:=KX k.len e;rw[e'];cases B' with
   |mem cs=>trivial
   |dead=>trivial
   |sl d r rows=>
    obtain⟨d0,MJ,e0,hk⟩:=k.box b d r rows IV e';grind
 |Fg b j=>exact⟨AHG h.1 k.len,by rw[h.2,k.FH b h.1]⟩
 |GZ b p i sz j=>
  simp only[VR]at h⊢;obtain⟨h0,h⟩:=h;refine⟨h0,?_⟩;cases e:vw[b]? with
  |none=>simp_all
  |some B=>
   rw[e]at h;have IV:=(AEy.1 e).1;obtain⟨B',e'⟩:=KX k.len e;rw[e'];cases B' with
   |mem cs=>trivial
   |dead=>trivial
   |sl d r rows=>
    obtain⟨d0,MJ,e0,hk⟩:=k.box b d r rows IV e';grind
 |KU s r x j=>
  simp only[VR]at h⊢;obtain⟨bb,o,cs,hv,hb,hl,hc,hr⟩:=h;cases s with
  |false=>exact⟨bb,o,cs,hv,k.T bb (by simp_all),hl,hc.of_block (k.heap bb (by simp_all)),D8 k.T k.heap (by simp_all)⟩
  |true=>exact⟨bb,o,cs,hv,k.S bb (by simp_all),hl,hc.of_block (k.heap bb (k.st bb (by simp_all))),D8 k.S (fun b hb=>k.heap b (k.st b hb)) (by simp_all)⟩
 |fn f HI=>
  refine⟨fun b hb=>AHG (h.1 b hb) k.len,?_⟩;rw[h.2];congr 2;exact AHH fun b hb=>by rw[k.FH b (h.1 b hb)]
 |cI f rows=>
  obtain⟨ps,hv,h⟩:=h;exact⟨ps,hv,h.imp fun q p ⟨bb,o,cs,h1,h2,h3,h4,h5⟩=>⟨bb,o,cs,h1,k.T bb h2,h3,h4.of_block (k.heap bb h2),D8 k.T k.heap h5⟩⟩
 |kj=>exact h
 |undef=>trivial
theorem KB{E E':Env}{w w':World}{vw vw':List Bx}(k:Mb E w vw E' w' vw'):∀{x:XV} {v:Value},XR E w vw x v→XR E' w' vw' x v
 | .c _,_,h=>EN k h
 | .agg _,_,⟨vs,hv,h⟩=>⟨vs,hv,h.imp fun _ _ h=>EN k h⟩
 | .KK l,_,⟨vs,hv,h⟩=>⟨vs,hv,h.imp fun
  | .inl _,_,h=>EN k h
  | .inr _,_,⟨ws,hw,h⟩=>⟨ws,hw,h.imp fun _ _ h=>EN k h⟩⟩
theorem Mb.refl{E:Env}{w:World}{vw:List Bx}(st:∀b,E.S b→E.T b):Mb E w vw E w vw:=
 ⟨AGh _,fun _ _=>rfl,fun _ h=>h,fun _ h=>h,st,fun _ _=>rfl,fun b d r rows _ h=>⟨d,rows,h,fun p hp q ys hg=>⟨hp,⟨ys,hg,rfl⟩,fun _ h=>h⟩⟩⟩
theorem Mb.trans{E E' qX:Env}{w w' vH:World}{vw vw' AAr:List Bx}(k:Mb E w vw E' w' vw')(k':Mb E' w' vw' qX vH AAr):Mb E w vw qX vH AAr where
 len:=AHK k.len k'.len
 FH:=fun b hb=>(k'.FH b (AHG hb k.len)).trans (k.FH b hb)
 T:=fun b h=>k'.T b (k.T b h)
 S:=fun b h=>k'.S b (k.S b h)
 st:=k.st
 heap:=fun b h=>(k'.heap b (k.T b h)).trans (k.heap b h)
 box:=fun b d r rows hb h=>by
  obtain⟨d1,vi,h1,k1⟩:=k'.box b d r rows (AHG hb k.len) h;obtain⟨d0,MJ,h0,k0⟩:=k.box b d1 r vi hb h1;grind
theorem fK{w w':World}{S:Nat→Prop}{d:Nat}{r:Ty}{h:Value}{rows:List r.D}{F:AAO}(ho:Ow w S d (.sl r) [h] rows F)
  (hS:∀b,S b→w'.heap[b]? =w.heap[b]?) (hF:∀b∈F,w'.heap[b]? =w.heap[b]?) {p:List O7} (hp:CK r rows p) {q:Ty} {ys:List q.D} (hg:Eh r rows p=some ⟨q,ys⟩)
  {h':Value} (hh:F4 w h p=some h'):F4 w' h p=some h':=by
 obtain⟨h1,k,_⟩:=Zp (P4 ho) hp hg;grind
end Go.Fw
end
section
namespace Go.Fw
theorem Bh.set{α β:Type}{R:α→β→Prop}:∀{l:List α} {m:List β} {i:Nat} {a:α} {b:β},Bh R l m→R a b→Bh R (l.set i a) (m.set i b)
 |[],[],_,_,_,_,_=>trivial
 |_::_,_::_,0,_,_,h,r=>⟨r,h.2⟩
 |_::_,_::_,i+1,_,_,h,r=>⟨h.1,Bh.set h.2 r⟩
theorem Bh.append{α β:Type}{R:α→β→Prop}:∀{l:List α} {m:List β} {l':List α} {m':List β},Bh R l m→Bh R l' m'→Bh R (l++l') (m++m')
 |[],[],_,_,_,h=>h
 |_::_,_::_,_,_,h,k=>⟨h.1,Bh.append h.2 k⟩
theorem Bh.H6{α β γ:Type}{R:α→β→Prop}{S:γ→β→Prop}(f:α→γ)(h:∀a b,R a b→S (f a) b):∀{l:List α} {m:List β},Bh R l m→Bh S (l.map f) m
 |[],[],_=>trivial
 |_::_,_::_,k=>⟨h _ _ k.1,Bh.H6 f h k.2⟩
theorem Bh.drop{α β:Type}{R:α→β→Prop}:∀{l:List α} {m:List β} (n:Nat),Bh R l m→Bh R (l.drop n) (m.drop n)
 |_,_,0,h=>h
 |[],[],_+1,_=>trivial
 |_::_,_::_,n+1,h=>Bh.drop n h.2
theorem Bh.take{α β:Type}{R:α→β→Prop}:∀{l:List α} {m:List β} (n:Nat),Bh R l m→Bh R (l.take n) (m.take n)
 |[],[],0,_=>trivial
 |_::_,_::_,0,_=>trivial
 |[],[],_+1,_=>trivial
 |_::_,_::_,n+1,h=>⟨h.1,Bh.take n h.2⟩
structure T0 (E0:Env) (w0:World) (E:Env) (w:World):Prop where
 T:∀c,E0.T c→E.T c
 S:∀c,E0.S c→E.S c
 sx:∀c,E.T c→E0.T c∨E.S c
 lM:∀c,E.S c→E0.S c∨ ¬E0.T c
 heap:∀c,E0.T c→w.heap[c]? =w0.heap[c]?
 os:w.os=w0.os
 tape:w.tape=w0.tape
 output:w.output=w0.output
 size:w0.heap.size≤w.heap.size
theorem T0.refl(E:Env)(w:World):T0 E w E w:=⟨fun _ h=>h,fun _ h=>h,fun _ h=> .inl h,fun _ h=> .inl h,fun _ _=>rfl,rfl,rfl,rfl,AGh _⟩
theorem T0.trans{E E' qX:Env}{w w' vH:World}(h:T0 E w E' w')(k:T0 E' w' qX vH):T0 E w qX vH:=
 ⟨fun c hc=>k.T c (h.T c hc),fun c hc=>k.S c (h.S c hc),fun c hc=>(k.sx c hc).elim (fun h' =>(h.sx c h').imp id (k.S c)) .inr,
  fun c hc=>(k.lM c hc).elim (h.lM c) (fun h' => .inr fun ht=>h' (h.T c ht)),fun c hc=>(k.heap c (h.T c hc)).trans (h.heap c hc),
  k.os.trans h.os,k.tape.trans h.tape,k.output.trans h.output,AHK h.size k.size⟩
theorem Le.base{E E':Env}(h:Le E E')(w:World):T0 E w E' w:=⟨h.T,h.S,h.sx,h.lM,fun _ _=>rfl,rfl,rfl,rfl,AGh _⟩
def jJ(E:Env)(w:World)(k:Nat):Bx→Nat→Prop
 | .mem _,c=>c=E.FH k
 | .sl _ r rows,c=>RB w (.sl r) [E.FG k] rows c
 | .dead,_=>False
def OI:Bx→Bx→Prop
 | .mem _,.mem _=>True
 | .sl _ r x,.sl _ q y=>(⟨r,x⟩:(r:Ty)×List r.D)=⟨q,y⟩
 |_,_=>False
structure Lh (t:AAO) (E0:Env) (bx0:List Bx) (w0:World) (E:Env) (bx:List Bx) (w:World):Prop where
 base:T0 E0 w0 E w
 len:bx0.length≤bx.length
 ids:∀b,b<bx0.length→E.FH b=E0.FH b∧E.FG b=E0.FG b
 dead:∀b:Nat,bx0[b]? =some Bx.dead→bx[b]? =some Bx.dead
 frame:∀(n:Nat) B B',n∉t→bx0[n]? =some B→bx[n]? =some B'→B'≠ .dead→OI B B'∧ ∀c,jJ E0 w0 n B c→w.heap[c]? =w0.heap[c]?
theorem Lh.any{E E':Env}{bx K5:List Bx}{w w':World}(h:Lh [] E bx w E' K5 w'){t:AAO}:Lh t E bx w E' K5 w':=
 ⟨h.base,h.len,h.ids,h.dead,fun n B B' _=>h.frame n B B' (by simp)⟩
theorem OI.refl{B:Bx}(h:B≠ .dead):OI B B:=by cases B<;>simp_all[OI]
theorem Lh.refl(t:AAO)(E:Env)(bx:List Bx)(w:World):Lh t E bx w E bx w:=⟨T0.refl E w,AGh _,fun _ _=>⟨rfl,rfl⟩,fun _ h=>h,fun n B B' _ h h' hd=>by
 rw[h]at h';cases h';exact⟨OI.refl hd,fun _ _=>rfl⟩⟩
theorem Ua{E:Env}{w:World}{vw:List Bx}{k:Nat}{B:Bx}{F:AAO}{c:Nat}(h:bE E w vw k B F)(hc:jJ E w k B c):E.S c∨c∈F:=by
 cases B with
 |mem cs=>obtain⟨rfl,_⟩:=h;grind[jJ]
 |sl d r rows=>exact fU (P4 h.2) hc
 |dead=>exact hc.elim
structure Rel (E:Env) (σ:St) (a:Act) (w:World):Prop where
 JQ:a.defers=[]
 tm:Bh (XR E w σ.bx) σ.tm a.tmps.toList
 bx:CD E w σ.bx σ.bx []
theorem Rel.put{E:Env}{σ:St}{a:Act}{w:World}(h:Rel E σ a w)(dst:Option Tmp){x:XV}{v:Value}(hx:XR E w σ.bx x v):Rel E (σ.put dst x) (a.put dst v) w:=by
 cases dst with
 |none=>exact h
 |some d=>exact⟨h.JQ,by simpa[St.put,Act.put]using Bh.set h.tm hx,h.bx⟩
theorem Bh.wa{E:Env}{w:World}{vw:List Bx}{l:List XV}{m:Array Value}(h:Bh (XR E w vw) l m.toList)(t:Nat):XR E w vw (l.getD t (.c .undef)) (m.getD t undef):=by
 by_cases ht:t<l.length
 ·have e:l[t]? =some l[t]:=AEX ht
  obtain⟨b,hb,hr⟩:=h.get e;simp_all
 ·have e:l[t]? =none:=by simp_all
  simp only[List.getD_eq_getElem?_getD,e,Option.getD_none]
  trivial
theorem eK{E:Env}{w:World}{vw:List Bx}(v:Value):VR E w vw (aj v) v:=by
 unfold aj;split<;>first
  |trivial
  |exact⟨rfl,by simp[Rd]⟩
  |rfl
theorem YS{E:Env}{w:World}{vw:List Bx}:∀(l:List Value),XO E w vw (l.map aj) l
 |[]=>trivial
 |a::l=>⟨eK a,YS l⟩
theorem j8{E:Env}{w:World}{vw:List Bx}(v:Value):XR E w vw (ofValue v) v:=by
 unfold ofValue;split
 ·rename_i cs
  exact⟨cs,rfl,YS cs.toList⟩
 ·exact eK v
theorem Rel.ev{E:Env}{σ:St}{a:Act}{w:World}(h:Rel E σ a w)(x:Operand):XR E w σ.bx (σ.ev x) (a.eval x):=by
 cases x with
 |tmp t=>exact Bh.wa h.tm t
 |const v=>exact j8 v
 |global g=>trivial
 |func f=>exact⟨by simp,rfl⟩
theorem N7{b:Nat}:∀{Fs:List AAO} {F:AAO},Fs[b]? =some F→Fs.flatten.Perm (F++(Fs.set b []).flatten):=by
 induction b with
 |zero=>
  intro Fs F h;cases Fs with
  |nil=>simp at h
  |cons A l=>simp_all
 |succ b ih=>
  intro Fs F h;cases Fs with
  |nil=>simp at h
  |cons A l=>
   grind
theorem Sep.perm{E:Env}{w:World}{F F':AAO}(h:Sep E w F)(p:F.Perm F'):Sep E w F':=
 ⟨p.nodup_iff.1 h.nodup,fun c hc=>h.free c (p.mem_iff.2 hc),fun c hc=>h.lt c (p.mem_iff.2 hc),h.st,h.TQ⟩
theorem Sep.sub{E:Env}{w:World}{F F':AAO}(h:Sep E w (F++F')):Sep E w F:=
 ⟨(AFX.1 h.nodup).1,fun c hc=>h.free c (by simp[hc]),fun c hc=>h.lt c (by simp[hc]),h.st,h.TQ⟩
theorem CD.perm{E:Env}{w:World}{vw bx:List Bx}{G G':AAO}(h:CD E w vw bx G)(p:G.Perm G'):CD E w vw bx G':=
 let⟨Fs,h1,h2⟩:=h
 ⟨Fs,h1,h2.perm (AIP _ p)⟩
theorem CD.drop{E:Env}{w:World}{vw bx:List Bx}{G G':AAO}(h:CD E w vw bx (G++G')):CD E w vw bx G:=
 let⟨Fs,h1,h2⟩:=h
 ⟨Fs,h1,by rw[←AGl]at h2;exact h2.sub⟩
theorem CD.st{E:Env}{w:World}{vw bx:List Bx}{G:AAO}(h:CD E w vw bx G):∀c,E.S c→E.T c:=let⟨_,_,h⟩:=h;h.st
theorem CD.TQ{E:Env}{w:World}{vw bx:List Bx}{G:AAO}(h:CD E w vw bx G):∀c,E.T c→c<w.heap.size:=let⟨_,_,h⟩:=h;h.TQ
theorem CD.re{E:Env}{w:World}{vw bx:List Bx}{G:AAO}(h:CD E w vw bx G):∀c∈G,¬E.T c:=let⟨_,_,h⟩:=h;fun c hc=>h.free c (by simp[hc])
theorem CD.take{E:Env}{w:World}{vw bx:List Bx}{G:AAO}(h:CD E w vw bx G){b:Nat}{B:Bx}(hb:bx[b]? =some B):
  ∃F,bE E w vw b B F∧CD E w vw (bx.set b .dead) (F++G):=by
 obtain⟨Fs,⟨hl,h1⟩,h2⟩:=h;have IV:=(AEy.1 hb).1;have hF:Fs[b]? =some (Fs[b]'(by omega)):=AEX _;refine⟨_,h1 b B _ hb hF,Fs.set b [],⟨by simp_all,fun k C F hk hkF=> ?_⟩,h2.perm ?_⟩
 ·by_cases e:k=b
  ·subst e
   rw[AHY (by omega)]at hk hkF;cases hk;cases hkF;rfl
  grind
 grind[List.Perm.append_right,N7,List.append_assoc,List.perm_append_comm,trans,List.Perm.append_left]
theorem CD.put{E:Env}{w:World}{vw bx:List Bx}{F G:AAO}(h:CD E w vw bx (F++G)){b:Nat}{B:Bx}(hb:bx[b]? =some .dead)(hB:bE E w vw b B F):
  CD E w vw (bx.set b B) G:=by
 obtain⟨Fs,⟨hl,h1⟩,h2⟩:=h;have IV:=(AEy.1 hb).1;have hF:Fs[b]? =some (Fs[b]'(by omega)):=AEX _;have e0:Fs[b]'(by omega)=[]:=h1 b _ _ hb hF;refine⟨Fs.set b F,⟨by simp_all,fun k C F' hk hkF=> ?_⟩,h2.perm ?_⟩
 ·grind
 ·have p:(Fs.set b F).flatten.Perm (F++Fs.flatten):=by
   have p1:=N7 (Fs:=Fs.set b F) (b:=b) (F:=F) (AHY (by omega));rw[List.set_set]at p1;have p2:=N7 hF;grind
  grind
theorem CD.push{E:Env}{w:World}{vw bx:List Bx}{F G:AAO}(h:CD E w vw bx (F++G)){B:Bx}(hB:bE E w vw bx.length B F):
  CD E w vw (bx++[B]) G:=by
 obtain⟨Fs,⟨hl,h1⟩,h2⟩:=h;refine⟨Fs++[F],⟨by simp[hl],fun k C F' hk hkF=> ?_⟩,h2.perm (by simp)⟩;grind
theorem CD.turn{E E':Env}{w w':World}{vw vw' bx:List Bx}{G:AAO}(h:CD E w vw bx G)(k:∀x v,VR E w vw x v→VR E' w' vw' x v)
  (hS:∀c,E.S c→E'.S c) (qW:∀b,b<bx.length→E'.FH b=E.FH b) (ZO:∀b,b<bx.length→E'.FG b=E.FG b)
  (hw:∀c,(E.S c∨(¬E.T c∧c∉G))→c<w.heap.size→w'.heap[c]? =w.heap[c]?)
  (qC:∀F,Sep E w (F++G)→Sep E' w' (F++G)):CD E' w' vw' bx G:=by
 obtain⟨Fs,⟨hl,h1⟩,h2⟩:=h;refine⟨Fs,⟨hl,fun n B F hn hF=> ?_⟩,qC _ h2⟩;have IV:=(AEy.1 hn).1;have h3:=h1 n B F hn hF;have xO:∀c∈F,c∈Fs.flatten:=fun c hc=>AHA.2 ⟨F,AGN hF,hc⟩
 have hFw:∀c∈F,w'.heap[c]? =w.heap[c]?:=fun c hc=>hw c (.inr ⟨h2.free c (by simp_all),fun hg=>by
  have:=(AFX.1 h2.nodup).2.2 c (xO c hc) c hg;omega⟩) (h2.lt c (by simp_all))
 have dI:∀c,E.S c→w'.heap[c]? =w.heap[c]?:=fun c hc=>hw c (.inl hc) (h2.TQ c (h2.st c hc))
 cases B with
 |mem cs=>
  obtain⟨rfl,arr,ty,fr,ha,hu,hv⟩:=h3;refine⟨by simp_all,arr,ty,fr,?_,hu,hv.imp k⟩;simp_all
 |sl d r rows=>
  obtain⟨hd,ho⟩:=h3;refine⟨hd,?_⟩;grind[DK]
 |dead=>exact h3
end Go.Fw
end
section
namespace Go.Fw
theorem FM{β:Ty→Type}{a b:Ty}{x:β a}{y:β b}(h:LC a b x=some y):∃e:a=b,e▸x=y:=by
 grind[LC]
def Dx(bk vw:List Bx):Prop:= ∀(b:Nat) (B:Bx),bk[b]? =some B→B= .dead∨vw[b]? =some B
theorem Dx.refl(bx:List Bx):Dx bx bx:=fun _ _ h=> .inr h
theorem Addr.add_eq(b o n:Nat):(⟨b,o,none⟩:Addr).add n=⟨b,o+n,none⟩:=by grind[Addr.add]
theorem kt{w:World}{B:Nat→Prop}{r:Ty}{a:Option Addr}{len cap:Nat}{ys:List r.D}(h:Rd w B (.sl r) [.slice a len cap] ys){off n:Nat}(hn:off+n≤ys.length):
  Rd w B (.sl r) [OE r.n off n a cap] ((ys.drop off).take n):=by
 simp only[Rd]at h⊢;obtain⟨a',cap',e,hc,h⟩:=h;simp only[AGv,Value.slice.injEq,AHM]at e;obtain⟨rfl,rfl,rfl⟩:=e;have hl:((ys.drop off).take n).length=n:=by grind
 refine⟨_,_,by unfold OE;rw[hl],by omega,?_⟩;rw[hl];by_cases h0:n=0
 ·omega
 ·rcases h with h|⟨b,o,rfl,hb,h⟩
  ·omega
  ·refine .inr ⟨b,o+off*r.n,?_,hb,fun i y hy=> ?_⟩
   ·rw[AE4 (by omega)]
    simp[Addr.add_eq]
   grind
def Z1(E:Env)(Fs:List AAO)(c:Nat):Prop:=E.T c∨c∈Fs.flatten
section
variable{E:Env} {w:World} {vw bk:List Bx} {Fs:List AAO}
theorem JF.get(h:JF E w vw bk Fs){b:Nat}{B:Bx}(e:bk[b]? =some B):∃F,bE E w vw b B F∧ ∀c∈F,c∈Fs.flatten:=by
 have IV:=(AEy.1 e).1;have hF:Fs[b]? =some (Fs[b]'(by rw[h.1];omega)):=AEX _;exact⟨_,h.2 b B _ e hF,fun c hc=>AHA.2 ⟨_,AGN hF,hc⟩⟩
theorem T3(hs:Dx bk vw)(h:JF E w vw bk Fs)(st:∀c,E.S c→E.T c){b d:Nat}{r:Ty}{rows:List r.D}(e:bk[b]? =some (.sl d r rows))
  {p:List O7} (hp:CK r rows p) {q:Ty} {ys:List q.D} (hg:Eh r rows p=some ⟨q,ys⟩) {v:Value} (hh:F4 w (E.FG b) p=some v):
  Rd w (Z1 E Fs) (.sl q) [v] ys:=by
 obtain⟨F,⟨_,ho⟩,hF⟩:=h.get e;obtain⟨h',k,hr⟩:=Zp (P4 ho) hp hg;have:=k w (fun _ _=>rfl);rw[hh]at this;cases this;exact D8 (fun c hc=>hc.elim (fun hc=> .inl (st c hc)) (fun hc=> .inr (hF c hc))) (fun _ _=>rfl) hr
theorem Qc(hs:Dx bk vw){b d:Nat}{r:Ty}{rows:List r.D}(e:bk[b]? =some (.sl d r rows)):vw[b]? =some (.sl d r rows):=by
 rcases hs b _ e with h|h
 all_goals simp_all
theorem Rg(hs:Dx bk vw)(h:JF E w vw bk Fs)(st:∀c,E.S c→E.T c){x:AV}{v:Value}(hv:VR E w vw x v){q:Ty}{ys:List q.D}(e:JI bk x=some ⟨q,ys⟩):
  Rd w (Z1 E Fs) (.sl q) [v] ys:=by
 cases x with
 |sl s r x=>
  simp only[JI,AEY,AFU]at e;obtain⟨rfl,e⟩:=e;obtain rfl:=AGy e;simp only[VR]at hv;refine D8 (fun c hc=> ?_) (fun _ _=>rfl) hv;cases s
  ·exact .inl (by simp_all)
  ·exact .inl (st c (by simp_all))
 |ref b p=>
  grind[JI,VR,Qc,T3]
 |win b p off n=>
  simp only[JI]at e;split at e
  ·rename_i d r rows hb
   simp only[VR,Qc hs hb]at hv;obtain⟨_,hp,q',gX,a,len,cap,hg,hl,hh,rfl⟩:=hv;rw[hg]at e;simp only[AIz,AEY,AFU]at e;obtain⟨rfl,e⟩:=e;obtain rfl:=AGy e;grind[kt,T3]
  simp_all
 |_=>simp[JI]at e
theorem Nv(hs:Dx bk vw)(h:JF E w vw bk Fs)(st:∀c,E.S c→E.T c){t:Ty}{x:AV}{v:Value}(hv:VR E w vw x v){y:t.D}(e:Iw bk t x=some y):
  Rd w (Z1 E Fs) t [v] y:=by
 have sl:∀(r:Ty) (x:AV) (v:Value) (y:List r.D),VR E w vw x v→((JI bk x).bind fun q=>LC (β:=fun r=>List r.D) q.1 r q.2)=some y→Rd w (Z1 E Fs) (.sl r) [v] y:=by
  grind[Option.bind_eq_some_iff,FM,Rg]
 cases x with
 |v u z=>
  simp only[Iw]at e;obtain⟨e1,e2⟩:=FM e;subst e1;subst e2;exact D8 (fun _ hc=>hc.elim) (fun _ hc=>hc.elim) hv.2
 |nil=>
  cases t with
  |sl r=>
   simp only[Iw,AEY]at e;subst e;simp only[VR]at hv;subst hv;simp only[Rd];simp_all
  |_=>simp[Iw]at e
 |_=>
  cases t with
  |sl r=>exact sl r _ _ y hv (by simpa only[Iw]using e)
  |_=>simp[Iw]at e
theorem VP(hs:Dx bk vw)(h:JF E w vw bk Fs)(st:∀c,E.S c→E.T c):∀{r:Ty} {l:List AV} {vs:List Value} {x:r.D},XO E w vw l vs→FQ bk r l=some x→
  Rd w (Z1 E Fs) r vs x
 | .unit,[],[],x,_,_=>by rfl
 | .cons c r,a::l,v::vs,x,hv,e=>by
  simp only[FQ,AEz,AEx]at e;obtain⟨y,e1,z,e2,rfl⟩:=e;simp only[Rd];exact⟨v,vs,rfl,Nv hs h st hv.1 e1,VP hs h st hv.2 e2⟩
 | .unit,_::_,_,_,_,e=>by simp[FQ]at e
 | .unit,[],_::_,_,hv,_=>hv.elim
 | .cons _ _,[],_,_,_,e=>by simp[FQ]at e
 | .cons _ _,_::_,[],_,hv,_=>hv.elim
 | .int _,_,_,_,_,e=>by simp[FQ]at e
 | .bool,_,_,_,_,e=>by simp[FQ]at e
 | .str,_,_,_,_,e=>by simp[FQ]at e
 | .sl _,_,_,_,_,e=>by simp[FQ]at e
theorem WO{E1:Env}{jH:List Bx}(hs:Dx bk vw)(h:JF E w vw bk Fs)(st:∀c,E.S c→E.T c)(hT:∀c,Z1 E Fs c→E1.T c):
  ∀{r:Ty} {l:List AV} {vs:List Value} {x:r.D},XO E w vw l vs→FQ bk r l=some x→XO E1 w jH (Z9 r x) vs
 | .unit,[],[],x,_,_=>trivial
 | .cons c r,a::l,v::vs,x,hv,e=>by
  simp only[FQ,AEz,AEx]at e;obtain⟨y,e1,z,e2,rfl⟩:=e;have P_:=Nv hs h st hv.1 e1;have tl:XO E1 w jH _ _:=WO hs h st hT hv.2 e2;cases c with
  |sl q=>
   refine⟨?_,tl⟩;simp only[VR];exact D8 hT (fun _ _=>rfl) (by omega)
  |int k=>exact⟨⟨rfl,by grind[Rd]⟩,tl⟩
  |bool=>exact⟨⟨rfl,by grind[Rd]⟩,tl⟩
  |str=>exact⟨⟨rfl,by grind[Rd]⟩,tl⟩
  |unit=>
   grind[Rd]
  |cons c' r' =>
   exfalso
   cases a with
   |v u z=>
    simp only[Iw]at e1;obtain⟨e3,_⟩:=FM e1;subst e3;exact absurd hv.1.1 (by simp[Ty.scalar])
   |_=>simp[Iw]at e1
 | .unit,_::_,_,_,_,e=>by simp[FQ]at e
 | .unit,[],_::_,_,hv,_=>hv.elim
 | .cons _ _,[],_,_,_,e=>by simp[FQ]at e
 | .cons _ _,_::_,[],_,hv,_=>hv.elim
 | .int _,_,_,_,_,e=>by simp[FQ]at e
 | .bool,_,_,_,_,e=>by simp[FQ]at e
 | .str,_,_,_,_,e=>by simp[FQ]at e
 | .sl _,_,_,_,_,e=>by simp[FQ]at e
end
end Go.Fw
end
section
namespace Go.Fw
def Ext(m m':KY):Prop:=m'.length=m.length∧ ∀(i b:Nat),m[i]? =some (some b)→m'[i]? =some (some b)
theorem Ext.refl(m:KY):Ext m m:=⟨rfl,fun _ _ h=>h⟩
theorem Ext.trans{m m' m'':KY}(h:Ext m m')(k:Ext m' m''):Ext m m'':=⟨k.1.trans h.1,fun i b e=>k.2 i b (h.2 i b e)⟩
def aw(m:KY):Prop:= ∀(i j b:Nat),m[i]? =some (some b)→m[j]? =some (some b)→i=j
theorem UM{m m':KY}{i b:Nat}(e:m.put i b=some m'):Ext m m'∧m'[i]? =some (some b)∧(aw m→aw m'):=by
 unfold KY.put at e;split at e
 ·rename_i h
  split at e
  ·cases e
  ·rename_i hc
   cases e;have IV:=(AEy.1 h).1;have ABD:∀(k:Nat),m[k]?≠some (some b):=fun k hk=>hc (by
    grind)
   refine⟨⟨by simp,fun k c hk=> ?_⟩,by simp[IV],fun hi j k c hj hk=> ?_⟩
   ·grind
   ·by_cases e1:j=i<;>by_cases e2:k=i
    ·omega
    ·grind
    ·grind
    ·rw[AHB (by omega)]at hj hk
     exact hi j k c hj hk
 all_goals grind[Ext.refl]
def L2(m:KY):List Nat→List Nat→Prop
 |[],[]=>True
 |i::is,b::bs=>m[i]? =some (some b)∧L2 m is bs
 |_,_=>False
theorem L2.ext{m m':KY}(h:Ext m m'):∀{is bs},L2 m is bs→L2 m' is bs
 |[],[],_=>trivial
 |_::_,_::_,k=>⟨h.2 _ _ k.1,L2.ext h k.2⟩
theorem Wa:∀{is bs:AAO} {m m':KY},Sd m is bs=some m'→Ext m m'∧L2 m' is bs∧(aw m→aw m')
 |[],[],m,m',e=>by simp only[Sd,AEY]at e;subst e;exact⟨Ext.refl _,trivial,fun h=>h⟩
 |i::is,b::bs,m,m',e=>by
  simp only[Sd,AEz]at e;obtain⟨m1,e1,e2⟩:=e;obtain⟨a1,a2,a3⟩:=UM e1;obtain⟨b1,b2,b3⟩:=Wa e2;exact⟨a1.trans b1,⟨b1.2 _ _ a2,b2⟩,fun h=>b3 (a3 h)⟩
 |[],_::_,_,_,e=>by simp[Sd]at e
 |_::_,[],_,_,e=>by simp[Sd]at e
def MP(N:Nat)(m:KY):AP→AV→Prop
 | .ref i,x=> ∃b,(x= .ref b []∨(x= .nil∧b=N+i))∧m[i]? =some (some b)
 | .ptr i j,x=> ∃b,x= .Fg b j∧m[i]? =some (some b)
 | .fn f HI,x=> ∃bs,x= .fn f bs∧L2 m HI bs
 | .nil,x=>x= .nil
 | .X9 i sz,x=> ∃b k j,x= .ref b [⟨k,sz,j⟩]∧m[i]? =some (some b)
 |_,_=>True
theorem MP.ext{N:Nat}{m m':KY}(h:Ext m m'){p:AP}{x:AV}(k:MP N m p x):MP N m' p x:=by
 cases p with
 |ref i=>obtain⟨b,hx,k⟩:=k;exact⟨b,hx,h.2 _ _ k⟩
 |ptr i j=>obtain⟨b,rfl,k⟩:=k;exact⟨b,rfl,h.2 _ _ k⟩
 |fn f HI=>obtain⟨bs,rfl,k⟩:=k;exact⟨bs,rfl,k.ext h⟩
 |nil=>exact k
 |X9 i sz=>obtain⟨b,q,j,rfl,k⟩:=k;exact⟨b,q,j,rfl,h.2 _ _ k⟩
 |_=>trivial
theorem UJ{N:Nat}{m m':KY}{p:AP}{x:AV}(e:p.Jb N m x=some m'):Ext m m'∧MP N m' p x∧(aw m→aw m'):=by
 cases p with
 |ref i=>
  cases x with
  |ref b q=>
   cases q with
   |nil=>
    obtain⟨a,b,c⟩:=UM (by simpa only[AP.Jb]using e);exact⟨a,⟨_,.inl rfl,b⟩,c⟩
   |cons _ _=>simp[AP.Jb]at e
  |nil=>
   obtain⟨a,b,c⟩:=UM (by simpa only[AP.Jb]using e);exact⟨a,⟨_,.inr ⟨rfl,rfl⟩,b⟩,c⟩
  |_=>simp[AP.Jb]at e
 |ptr i j=>
  cases x with
  |Fg b j' =>
   simp only[AP.Jb]at e;split at e
   ·rename_i hj
    subst hj;obtain⟨a,b,c⟩:=UM e;exact⟨a,⟨_,rfl,b⟩,c⟩
   simp_all
  |_=>simp[AP.Jb]at e
 |fn f HI=>
  cases x with
  |fn g bs=>
   simp only[AP.Jb]at e;split at e
   ·rename_i hf
    subst hf;obtain⟨a,b,c⟩:=Wa e;exact⟨a,⟨_,rfl,b⟩,c⟩
   simp_all
  |_=>simp[AP.Jb]at e
 |nil=>
  cases x with
  |nil=>simp only[AP.Jb,AEY]at e;subst e;exact⟨Ext.refl _,rfl,fun h=>h⟩
  |_=>simp[AP.Jb]at e
 |X9 i sz=>
  cases x with
  |ref b q=>
   cases q with
   |nil=>simp[AP.Jb]at e
   |cons s q=>
    cases q with
    |nil=>
     simp only[AP.Jb]at e;split at e
     ·rename_i hs
      obtain⟨a,b,c⟩:=UM e;obtain⟨k,z,y⟩:=s;dsimp only at hs;subst hs;exact⟨a,⟨_,k,y,rfl,b⟩,c⟩
     simp_all
    |cons _ _=>simp[AP.Jb]at e
  |_=>simp[AP.Jb]at e
 |_=>
  have:m=m':=by grind[AP.Jb]
  subst this;exact⟨Ext.refl _,trivial,fun h=>h⟩
theorem O6{N:Nat}:∀{l:List AP} {xs:List AV} {m m':KY},P8.Jb N m l xs=some m'→Ext m m'∧Bh (MP N m') l xs∧(aw m→aw m')
 |[],[],m,m',e=>by simp only[P8.Jb,AEY]at e;subst e;exact⟨Ext.refl _,trivial,fun h=>h⟩
 |p::l,x::xs,m,m',e=>by
  simp only[P8.Jb,AEz]at e;obtain⟨m1,e1,e2⟩:=e;obtain⟨a1,a2,a3⟩:=UJ e1;obtain⟨b1,b2,b3⟩:=O6 e2;exact⟨a1.trans b1,⟨a2.ext b1,b2⟩,fun h=>b3 (a3 h)⟩
 |[],_::_,_,_,e=>by simp[P8.Jb]at e
 |_::_,[],_,_,e=>by simp[P8.Jb]at e
def Vw(N:Nat)(m:KY):AP ⊕ List AP→AV ⊕ List AV→Prop
 | .inl p,.inl x=>MP N m p x
 | .inr p,.inr x=>Bh (MP N m) p x
 |_,_=>False
theorem Vw.ext{N:Nat}{m m':KY}(h:Ext m m'):∀{p:AP ⊕ List AP} {x:AV ⊕ List AV},Vw N m p x→Vw N m' p x
 | .inl _,.inl _,k=>MP.ext h k
 | .inr _,.inr _,k=>Bh.imp (fun _ _ k=>MP.ext h k) k
theorem Sl{N:Nat}:∀{l:List (AP ⊕ List AP)} {xs:List (AV ⊕ List AV)} {m m':KY},QN.Jb N m l xs=some m'→Ext m m'∧Bh (Vw N m') l xs∧(aw m→aw m')
 |[],[],m,m',e=>by simp only[QN.Jb,AEY]at e;subst e;exact⟨Ext.refl _,trivial,fun h=>h⟩
 | .inl p::l,.inl x::xs,m,m',e=>by
  simp only[QN.Jb,AEz]at e;obtain⟨m1,e1,e2⟩:=e;obtain⟨a1,a2,a3⟩:=UJ e1;obtain⟨b1,b2,b3⟩:=Sl e2;exact⟨a1.trans b1,⟨MP.ext b1 a2,b2⟩,fun h=>b3 (a3 h)⟩
 | .inr p::l,.inr x::xs,m,m',e=>by
  simp only[QN.Jb,AEz]at e;obtain⟨m1,e1,e2⟩:=e;obtain⟨a1,a2,a3⟩:=O6 e1;obtain⟨b1,b2,b3⟩:=Sl e2;exact⟨a1.trans b1,⟨Bh.imp (fun _ _ k=>MP.ext b1 k) a2,b2⟩,fun h=>b3 (a3 h)⟩
 |[],_::_,_,_,e=>by simp[QN.Jb]at e
 | .inl _::_,[],_,_,e=>by simp[QN.Jb]at e
 | .inr _::_,[],_,_,e=>by simp[QN.Jb]at e
 | .inl _::_,.inr _::_,_,_,e=>by simp[QN.Jb]at e
 | .inr _::_,.inl _::_,_,_,e=>by simp[QN.Jb]at e
def Sb(N:Nat)(m:KY):XP→XV→Prop
 | .c p,.c x=>MP N m p x
 | .agg l,.agg xs=>Bh (MP N m) l xs
 | .row _,.agg _=>True
 | .KK l,.KK xs=>Bh (Vw N m) l xs
 |_,_=>False
theorem Sb.ext{N:Nat}{m m':KY}(h:Ext m m'):∀{p:XP} {x:XV},Sb N m p x→Sb N m' p x
 | .c _,.c _,k=>MP.ext h k
 | .agg _,.agg _,k=>Bh.imp (fun _ _ k=>MP.ext h k) k
 | .row _,.agg _,_=>trivial
 | .KK _,.KK _,k=>Bh.imp (fun _ _ k=>Vw.ext h k) k
theorem iN{N:Nat}{m m':KY}:∀{p:XP} {x:XV},p.Jb N m x=some m'→Ext m m'∧Sb N m' p x∧(aw m→aw m')
 | .c p,.c x,e=>UJ (by grind[XP.Jb])
 | .agg l,.agg xs,e=>O6 (by grind[XP.Jb])
 | .row r,.agg xs,e=>by simp only[XP.Jb,AEY]at e;subst e;exact⟨Ext.refl _,trivial,fun h=>h⟩
 | .KK l,.KK xs,e=>Sl (by grind[XP.Jb])
 | .c _,.agg _,e=>by simp[XP.Jb]at e
 | .c _,.KK _,e=>by simp[XP.Jb]at e
 | .agg _,.c _,e=>by simp[XP.Jb]at e
 | .agg _,.KK _,e=>by simp[XP.Jb]at e
 | .row _,.c _,e=>by simp[XP.Jb]at e
 | .row _,.KK _,e=>by simp[XP.Jb]at e
 | .KK _,.c _,e=>by simp[XP.Jb]at e
 | .KK _,.agg _,e=>by simp[XP.Jb]at e
theorem TT{N:Nat}{tm:List XV}:∀{l:List (Nat×XP)} {m m':KY},Ef.Jb N tm m l=some m'→
  Ext m m'∧(∀q∈l,∃x,tm[q.1]? =some x∧Sb N m' q.2 x)∧(aw m→aw m')
 |[],m,m',e=>by grind[Ef.Jb,Option.some.injEq,Ext.refl]
 |(i,p)::l,m,m',e=>by
  simp only[Ef.Jb]at e;split at e
  ·rename_i x hx
   simp only[AEz]at e;obtain⟨m1,e1,e2⟩:=e;obtain⟨a1,a2,a3⟩:=iN e1;obtain⟨b1,b2,b3⟩:=TT e2;refine⟨a1.trans b1,?_,fun h=>b3 (a3 h)⟩;intro q hq;rcases AGD.1 hq with rfl|hq
   all_goals grind[Sb.ext]
  simp_all
theorem Oq{N:Nat}{bx:List Bx}:∀{l:List BP} {i:Nat} {m m':KY},Gf.Jb N bx i m l=some m'→
  Ext m m'∧(∀(k:Nat) q,l[k]? =some (.mem q)→ ∃b cs,m'[i+k]? =some (some b)∧bx[b]? =some (.mem cs)∧Bh (MP N m') q cs)∧
   (∀(k:Nat) d r,l[k]? =some (.sl d r)→ ∃b,m'[i+k]? =some (some b))∧(aw m→aw m')
 |[],i,m,m',e=>by grind[Gf.Jb,Option.some.injEq,Ext.refl]
 | .mem q::l,i,m,m',e=>by
  simp only[Gf.Jb]at e;split at e
  ·rename_i b hb
   split at e
   ·rename_i cs iF
    simp only[AEz]at e;obtain⟨m1,e1,e2⟩:=e;obtain⟨a1,a2,a3⟩:=O6 e1;obtain⟨b1,b2,b4,b3⟩:=Oq e2;refine⟨a1.trans b1,?_,?_,fun h=>b3 (a3 h)⟩
    ·intro k q' hk
     cases k with
     |zero=>cases hk;exact⟨b,cs,b1.2 _ _ (a1.2 _ _ hb),iF,Bh.imp (fun _ _ k=>MP.ext b1 k) a2⟩
     |succ k=>
      grind
    grind
   simp_all
  simp_all
 | .sl d r::l,i,m,m',e=>by
  simp only[Gf.Jb]at e;split at e
  ·rename_i b hb
   obtain⟨b1,b2,b4,b3⟩:=Oq e;refine⟨b1,?_,?_,b3⟩
   ·grind
   ·intro k d r hk
    cases k with
    |zero=>exact⟨b,b1.2 _ _ hb⟩
    |succ k=>
     grind
  simp_all
 | .gone::l,i,m,m',e=>by
  simp only[Gf.Jb]at e;obtain⟨b1,b2,b4,b3⟩:=Oq e;grind
theorem MM{bx bk:List Bx}{GQ:Nat→Nat}:∀{l:List BP} {m:KY} {x:Gf.V l},Gf.get bx bk m l=some x→(Gf.mk GQ l x).length=l.length∧
  ∀(k:Nat) p,l[k]? =some p→ ∃y:p.V,(Gf.mk GQ l x)[k]? =some (p.mk GQ y)∧
   match p,y with
   | .mem q,y=> ∃b cs,m[k]? =some (some b)∧bx[b]? =some (.mem cs)∧P8.get bk q cs=some y
   | .sl d r,y=> ∃b d',m[k]? =some (some b)∧bx[b]? =some (.sl d' r y)∧1≤d∧d≤d'
   | .gone,_=>True
 |[],m,x,e=>⟨rfl,by simp⟩
 | .mem q::l,some b::m,x,e=>by
  simp only[Gf.get]at e;split at e
  ·rename_i cs iF
   simp only[AEz,AEx]at e;obtain⟨a,e1,c,e2,rfl⟩:=e;obtain⟨h1,h2⟩:=MM (GQ:=GQ) e2;refine⟨by simp[Gf.mk,h1],fun k p hk=> ?_⟩;cases k with
   |zero=>cases hk;exact⟨a,rfl,b,cs,rfl,iF,e1⟩
   |succ k=>
    grind[Gf.mk]
  simp_all
 | .sl d r::l,some b::m,x,e=>by
  simp only[Gf.get]at e;split at e
  ·rename_i d' q rows hb
   split at e
   ·rename_i hd
    simp only[AEz,AEx]at e;obtain⟨a,e1,c,e2,rfl⟩:=e;obtain⟨e3,e4⟩:=FM e1;subst e3;subst e4;obtain⟨h1,h2⟩:=MM (GQ:=GQ) e2;refine⟨by simp[Gf.mk,h1],fun k p hk=> ?_⟩;cases k with
    |zero=>cases hk;exact⟨rows,rfl,b,d',rfl,hb,hd.1,hd.2⟩
    |succ k=>
     grind[Gf.mk]
   simp_all
  simp_all
 | .gone::l,o::m,x,e=>by
  have e':(Gf.get bx bk m l).map (fun c=>((),c))=some x:=by grind[Gf.get]
  simp only[AEx]at e';obtain⟨c,e2,rfl⟩:=e';obtain⟨h1,h2⟩:=MM (GQ:=GQ) e2;refine⟨by simp[Gf.mk,h1],fun k p hk=> ?_⟩;cases k with
  |zero=>cases hk;exact⟨(),rfl,trivial⟩
  |succ k=>
   grind[Gf.mk]
 | .mem q::l,none::m,x,e=>by simp[Gf.get]at e
 | .sl d r::l,none::m,x,e=>by simp[Gf.get]at e
 | .mem _::_,[],x,e=>by simp[Gf.get]at e
 | .sl _ _::_,[],x,e=>by simp[Gf.get]at e
 | .gone::_,[],x,e=>by simp[Gf.get]at e
theorem HF:∀{m:KY} {bx:List Bx},(B3 bx m).length=bx.length
 |[],_=>rfl
 |some b::m,bx=>by simp[B3,HF]
 |none::m,bx=>by simp[B3,HF]
theorem MG:∀{m:KY} {bx vw:List Bx},Dx bx vw→Dx (B3 bx m) vw
 |[],_,_,h=>h
 |none::m,bx,vw,h=>by simp only[B3];exact MG h
 |some b::m,bx,vw,h=>by
  simp only[B3];refine MG fun k B hk=> ?_
  by_cases e:k=b
  ·grind
  ·rw[AHB (by omega)]at hk
   exact h k B hk
theorem Om:∀{m:KY} {bx:List Bx} {b:Nat} {B:Bx},some b∈m→(B3 bx m)[b]? =some B→B= .dead
 |some c::m,bx,b,B,h,e=>by
  simp only[B3]at e;by_cases hm:some b∈m
  ·exact Om hm e
  ·have:c=b:=by
    simp_all
   subst this;have:∀{m:KY} {bx:List Bx},bx[c]? =some .dead→some c∉m→(B3 bx m)[c]? =some .dead:=by
    intro m
    induction m with
    |nil=>intro bx h _;exact h
    |cons o m ih=>
     intro bx h hn;cases o with
     |none=>grind[B3,List.mem_cons_of_mem]
     |some d=>
      grind[B3,List.mem_cons_of_mem,List.getElem?_set_ne]
   grind[List.getElem?_eq_some_iff,HF]
 |none::m,bx,b,B,h,e=>by
  simp only[B3]at e;exact Om (by simp_all) e
theorem Zi{E:Env}{w:World}{vw:List Bx}:∀{m:KY} {bx:List Bx} {G:AAO},aw m→CD E w vw bx G→
  ∃Gs:List AAO,Gs.length=m.length∧(∀(k b:Nat) B F,m[k]? =some (some b)→bx[b]? =some B→Gs[k]? =some F→bE E w vw b B F)∧
   CD E w vw (B3 bx m) (Gs.flatten++G)
 |[],bx,G,_,h=>⟨[],rfl,by simp,h⟩
 |none::m,bx,G,hi,h=>by
  obtain⟨Gs,h1,h2,h3⟩:=Zi (m:=m) (fun i j b JU hj=>by
   have:=hi (i+1) (j+1) b (by simp_all) (by simp_all);omega) h
  refine⟨[]::Gs,by simp[h1],fun k b B F hk hB hF=> ?_,by grind[B3]⟩;grind
 |some b::m,bx,G,hi,h=>by
  have vE:aw m:=fun i j b JU hj=>by
   have:=hi (i+1) (j+1) b (by simp_all) (by simp_all);omega
  cases e:bx[b]? with
  |none=>
   have SI:bx.set b .dead=bx:=List.set_eq_of_length_le (by simp_all);obtain⟨Gs,h1,h2,h3⟩:=Zi (m:=m) vE h;refine⟨[]::Gs,by simp[h1],fun k b' B F hk hB hF=> ?_,by grind[B3]⟩;grind
  |some B0=>
   obtain⟨F0,k1,k2⟩:=h.take e;obtain⟨Gs,h1,h2,h3⟩:=Zi (m:=m) vE k2;refine⟨F0::Gs,by simp[h1],fun k b' B F hk hB hF=> ?_,?_⟩
   ·cases k with
    |zero=>
     simp_all
    |succ k=>
     have UZ:b'≠b:=fun hh=>by
      have:=hi 0 (k+1) b (by simp) (by simp_all);omega
     grind
   ·simp only[B3]
    refine h3.perm ?_
    grind
end Go.Fw
end
section
namespace Go.Fw
theorem aM{R:Nat→List Nat→List Nat→List Nat→Prop}:∀(Gs:List AAO) (o:Nat),(∀(k:Nat) G,Gs[k]? =some G→ ∃F W,G.Perm (F++W)∧R (o+k) G F W)→
  ∃Fs Ws:List AAO,Fs.length=Gs.length∧Ws.length=Gs.length∧Gs.flatten.Perm (Fs.flatten++Ws.flatten)∧
   ∀(k:Nat) G F W,Gs[k]? =some G→Fs[k]? =some F→Ws[k]? =some W→R (o+k) G F W
 |[],o,_=>⟨[],[],rfl,rfl,by simp,by simp⟩
 |G::Gs,o,h=>by
  obtain⟨F,W,hp,hr⟩:=h 0 G rfl;obtain⟨Fs,Ws,h1,h2,h3,h4⟩:=aM Gs (o+1) (fun k G hk=>by
   have:=h (k+1) G (by simp_all)
   rwa [show o+1+k=o+(k+1)by omega])
  refine⟨F::Fs,W::Ws,by simp[h1],by simp[h2],?_,fun k G' F' W' hG hF hW=> ?_⟩
  all_goals grind
def Jz(E:Env)(w:World)(vw:List Bx)(GQ:Nat→Nat):(l:List (Nat×XP))→Ef.V l→List Value→Prop
 |[],_,_=>True
 |(i,p)::l,x,vals=>(∃v,vals[i]? =some v∧XR E w vw (p.mk GQ x.1) v)∧Jz E w vw GQ l x.2 vals
section
variable{E E1:Env} {w:World} {bx bk jH:List Bx} {Fk:List AAO} {m:KY}
theorem L2.map{f:Nat→Nat}(h:∀(i b:Nat),m[i]? =some (some b)→E1.FH i=E.FH b):∀{is bs:AAO},L2 m is bs→
  (is.map fun b=>Value.pointer (some ⟨E1.FH b,0,none⟩))=bs.map fun b=>Value.pointer (some ⟨E.FH b,0,none⟩)
 |[],[],_=>rfl
 |i::is,b::bs,k=>by simp[h i b k.1,L2.map (f:=f) h k.2]
theorem L2.lt:∀{is bs:AAO},L2 m is bs→ ∀i∈is,i<m.length
 |[],[],_,_,h=>by simp at h
 |i::is,b::bs,k,j,h=>by
  rcases AGD.1 h with rfl|h
  ·exact(AEy.1 k.1).1
  ·exact L2.lt k.2 j h
structure pc (N:Nat) (E:Env) (w:World) (bx bk:List Bx) (Fk:List AAO) (m:KY) (E1:Env) (jH:List Bx):Prop where
 within:Dx bk bx
 boxes:JF E w bx bk Fk
 st:∀c,E.S c→E.T c
 T:∀c,Z1 E Fk c→E1.T c
 S:∀c,E.S c→E1.S c
 ids:∀(i b:Nat),m[i]? =some (some b)→E1.FH i=E.FH b∧E1.FG i=E.FG b
 len:m.length≤jH.length
 nil:∀(i:Nat) d r rows,jH[i]? =some (.sl d r rows)→E.FG (N+i)= .slice none 0 0
 sl:∀(i:Nat) d r rows,i<m.length→jH[i]? =some (.sl d r rows)→ ∃b d',m[i]? =some (some b)∧bx[b]? =some (.sl d' r rows)
variable{N:Nat} (k:pc N E w bx bk Fk m E1 jH)
include k
theorem ju{p:AP}{x:AV}{v:Value}(hv:VR E w bx x v)(ha:MP N m p x){y:p.V}(e:p.get bk x=some y):VR E1 w jH (p.mk id y) v:=by
 cases p with
 |v t=>
  simp only[AP.get]at e;split at e
  ·rename_i hs
   have hr:=Nv k.within k.boxes k.st hv e;refine⟨hs,?_⟩;cases t with
   |int _=>grind[Rd]
   |bool=>grind[Rd]
   |str=>grind[Rd]
   |_=>simp[Ty.scalar]at hs
  simp_all
 |sl s r=>
  cases s with
  |false=>
   simp only[AP.get]at e;have hr:=Nv k.within k.boxes k.st hv e;simp only[AP.mk,VR];exact D8 k.T (fun _ _=>rfl) (by omega)
  |true=>
   simp only[AP.get]at e;split at e
   ·rename_i q z
    obtain⟨e1,e2⟩:=FM e;subst e1;subst e2;simp only[AP.mk,VR]at hv⊢;exact D8 k.S (fun _ _=>rfl) (by simp_all)
   ·cases e
    simp only[AP.mk,VR]at hv⊢;subst hv;simp only[Rd];simp_all
   simp_all
 |nil=>
  obtain rfl:=ha;exact hv
 |ref i=>
  obtain⟨b,hx,hm⟩:=ha;have hi:=(AEy.1 hm).1;simp only[AP.mk,id,VR];rcases hx with rfl|⟨rfl,rfl⟩
  ·have y7:=hv.1
   refine⟨y7,?_⟩;cases e1:jH[i]? with
   |none=>simp at e1;have:=k.len;omega
   |some B=>
    cases B with
    |sl d r rows=>
     obtain⟨b',d',h1,h2⟩:=k.sl i d r rows hi e1;rw[hm]at h1;cases h1;simp only[VR,h2]at hv
     replace hv:=hv.2
     refine⟨by simp[CK],⟨_,rfl⟩,?_⟩;rw[(k.ids i b hm).2];simp_all
    |_=>trivial
  ·have Qq:v= .slice none 0 0:=hv
   subst Qq;refine⟨rfl,?_⟩;cases e1:jH[i]? with
   |none=>simp at e1;have:=k.len;omega
   |some B=>
    cases B with
    |sl d r rows=>
     refine⟨by simp[CK],⟨_,rfl⟩,?_⟩;rw[(k.ids i _ hm).2,k.nil i d r rows e1,CI]
    |_=>trivial
 |ptr i j=>
  obtain⟨b,rfl,hm⟩:=ha;have hi:=(AEy.1 hm).1;exact⟨AHG hi k.len,by rw[hv.2,id,(k.ids i b hm).1]⟩
 |ZE r=>
  simp only[AP.get]at e;split at e
  ·rename_i s q z
   obtain⟨e1,e2⟩:=FM e;subst e1;subst e2;simp only[AP.mk,VR]at hv⊢;obtain⟨bb,o,cs,h1,h2,h3,h4,h5⟩:=hv;have yI:∀c,(if s=true then E.S else E.T) c→E1.T c:=by
    intro c hc;cases s
    ·exact k.T c (.inl (by simp_all))
    ·exact k.T c (.inl (k.st c (by simp_all)))
   exact⟨bb,o,cs,h1,by simp_all,h3,h4,by simpa using D8 yI (fun _ _=>rfl) h5⟩
  ·rename_i b
   split at e
   ·rename_i cs hb
    obtain⟨F,⟨hF,arr,ty,fr,ha,hu,Nx⟩,Sg⟩:=k.boxes.get hb;have P_:=VP k.within k.boxes k.st Nx e;simp only[AP.mk,VR];refine⟨E.FH b,0,arr.toList,by simpa using hv.2,?_,Xd P_,?_,by simpa using D8 k.T (fun _ _=>rfl) P_⟩
    ·simp only[AE6,AGn]
     exact k.T _ (.inr (Sg _ (by simp_all)))
    ·intro j u hj
     simp only[AHp,World.cell?,ha,AHm,AE6,AGn];simp_all
   simp_all
  ·rename_i b p i sz
   split at e
   ·rename_i d q rows hb
    simp only[AEz]at e;obtain⟨⟨q',ys⟩,e1,e2⟩:=e;split at e2
    case isFalse=>cases e2
    rename_i KS;obtain⟨e3,e4⟩:=FM e2;dsimp only at e3;subst e3;subst e4;simp only[VR,Qc k.within hb]at hv;obtain⟨_,hp,q1,ys1,bb,o,len,cap,hg,hi,hh,rfl⟩:=hv;rw[hg]at e1;simp only[AEY,AFU]at e1;obtain⟨e5,e6⟩:=e1;subst e5;obtain rfl:=AGy e6;have P_:=T3 k.within k.boxes k.st hb hp hg hh;simp only[Rd]at P_;obtain⟨a',cap',ee,_,P_⟩:=P_;simp only[AGv,Value.slice.injEq,AHM]at ee;obtain⟨rfl,rfl,rfl⟩:=ee;rcases P_ with P_|⟨b1,o1,e7,hb1,P_⟩
    ·omega
    ·cases e7
     obtain⟨cs,c1,c2,c3⟩:=P_ i _ (Lg hi);simp only[AP.mk,VR];refine⟨bb,o+i*q1.n,cs,by rw[KS],by simpa using k.T _ hb1,c1,c2,by simpa using D8 k.T (fun _ _=>rfl) c3⟩
   simp_all
  simp_all
 |fn f HI=>
  obtain⟨bs,rfl,hc⟩:=ha;refine⟨fun i hi=>AHG (hc.lt i (by simp_all)) k.len,?_⟩;rw[hv.2];simp only[AP.mk,AIj];rw[L2.map (f:=id) (fun i b h=>(k.ids i b h).1) hc]
 |cI f rs=>
  simp only[AP.get]at e;split at e
  ·rename_i g rows
   split at e
   case isFalse=>cases e
   rename_i hfg;subst hfg;obtain⟨ps,Rz,RQ⟩:=hv;refine⟨ps,Rz,?_⟩;clear ha Rz
   induction rs generalizing rows ps with
   |nil=>
    cases rows with
    |nil=>
     cases ps with
     |nil=>trivial
     |cons _ _=>exact RQ.elim
    |cons _ _=>simp[Q9.aC]at e
   |cons r rs ih=>
    cases rows with
    |nil=>simp[Q9.aC]at e
    |cons q rows=>
     cases ps with
     |nil=>exact RQ.elim
     |cons p ps=>
      simp only[Q9.aC,AEz,AEx]at e;obtain⟨x1,e1,x2,e2,rfl⟩:=e;obtain⟨q1,q2⟩:=q;obtain⟨e3,e4⟩:=FM e1;dsimp only at e3;subst e3;subst e4;obtain⟨⟨bb,o,cs,h1,h2,h3,h4,h5⟩,RQ⟩:=RQ;exact⟨⟨bb,o,cs,h1,k.T bb (.inl h2),h3,h4,D8 (fun b hb=>k.T b (.inl hb)) (fun _ _=>rfl) h5⟩,ih rows e2 ps RQ⟩
  ·rename_i g bs
   split at e
   case isFalse=>cases e
   rename_i hfg;subst hfg;obtain⟨Rz,RQ⟩:=hv;refine⟨bs.map fun b=>Value.pointer (some ⟨E.FH b,0,none⟩),RQ,?_⟩;clear ha Rz RQ
   induction rs generalizing bs with
   |nil=>
    cases bs with
    |nil=>trivial
    |cons _ _=>simp[Q9.bG]at e
   |cons r rs ih=>
    cases bs with
    |nil=>simp[Q9.bG]at e
    |cons b bs=>
     simp only[Q9.bG,AEz,AEx]at e;obtain⟨x1,e1,x2,e2,rfl⟩:=e;split at e1
     case h_2=>cases e1
     rename_i cs hb;obtain⟨F,⟨hF,arr,ty,fr,ha,hu,Nx⟩,Sg⟩:=k.boxes.get hb;have P_:=VP k.within k.boxes k.st Nx e1;refine⟨⟨E.FH b,0,arr.toList,rfl,k.T _ (.inr (Sg _ (by simp_all))),Xd P_,?_,D8 k.T (fun _ _=>rfl) P_⟩,ih bs e2⟩;intro j u hj;simp only[AHp,World.cell?,ha,AHm,AE6,AGn];simp_all
  simp_all
 |any=>trivial
 |X9 i sz=>
  obtain⟨b,q,j,rfl,hm⟩:=ha;have hi:=(AEy.1 hm).1;simp only[AP.get,AEY]at e;subst e;simp only[AP.mk,id,VR];have y7:=hv.1;refine⟨y7,?_⟩;cases e1:jH[i]? with
  |none=>simp at e1;have:=k.len;omega
  |some B=>
   cases B with
   |sl d r rows=>
    obtain⟨b',d',h1,h2⟩:=k.sl i d r rows hi e1;rw[hm]at h1;cases h1;simp only[VR,h2]at hv
    replace hv:=hv.2
    refine⟨hv.1,hv.2.1,?_⟩;rw[(k.ids i b hm).2];simp_all
   |_=>trivial
theorem Zh:∀{l:List AP} {xs:List AV} {vs:List Value},XO E w bx xs vs→Bh (MP N m) l xs→ ∀{y:P8.V l},P8.get bk l xs=some y→XO E1 w jH (P8.mk id l y) vs
 |[],[],[],_,_,_,_=>trivial
 |p::l,x::xs,v::vs,hv,ha,y,e=>by
  simp only[P8.get,AEz,AEx]at e;obtain⟨a,e1,b,e2,rfl⟩:=e;exact⟨ju k hv.1 ha.1 e1,Zh hv.2 ha.2 e2⟩
 |[],[],_::_,hv,_,_,_=>hv.elim
 |_::_,_::_,[],hv,_,_,_=>hv.elim
 |[],_::_,_,_,ha,_,_=>ha.elim
 |_::_,[],_,_,ha,_,_=>ha.elim
theorem fO:∀{l:List (AP ⊕ List AP)} {xs:List (AV ⊕ List AV)} {vs:List Value},Bh (TR E w bx) xs vs→Bh (Vw N m) l xs→ ∀{y:QN.V l},QN.get bk l xs=some y→
  Bh (TR E1 w jH) (QN.mk id l y) vs
 |[],[],[],_,_,_,_=>trivial
 | .inl p::l,.inl x::xs,v::vs,hv,ha,y,e=>by
  simp only[QN.get,AEz,AEx]at e;obtain⟨a,e1,b,e2,rfl⟩:=e;exact⟨ju k hv.1 ha.1 e1,fO hv.2 ha.2 e2⟩
 | .inr p::l,.inr x::xs,v::vs,hv,ha,y,e=>by
  simp only[QN.get,AEz,AEx]at e;obtain⟨a,e1,b,e2,rfl⟩:=e;obtain⟨⟨us,hu,hus⟩,h2⟩:=hv;exact⟨⟨us,hu,Zh k hus ha.1 e1⟩,fO h2 ha.2 e2⟩
 | .inl _::_,.inr _::_,_,_,ha,_,_=>ha.1.elim
 | .inr _::_,.inl _::_,_,_,ha,_,_=>ha.1.elim
 |[],[],_::_,hv,_,_,_=>hv.elim
 |_::_,_::_,[],hv,_,_,_=>hv.elim
 |[],_::_,_,_,ha,_,_=>ha.elim
 |_::_,[],_,_,ha,_,_=>ha.elim
theorem wz{p:XP}{x:XV}{v:Value}(hv:XR E w bx x v)(ha:Sb N m p x){y:p.V}(e:p.get bk x=some y):XR E1 w jH (p.mk id y) v:=by
 cases p with
 |c p=>cases x with
  |c x=>exact ju k hv ha (by grind[XP.get])
  |_=>exact ha.elim
 |agg l=>cases x with
  |agg xs=>
   obtain⟨vs,rfl,Nx⟩:=hv;exact⟨vs,rfl,Zh k Nx ha (by grind[XP.get])⟩
  |_=>exact ha.elim
 |row r=>cases x with
  |agg xs=>
   obtain⟨vs,rfl,Nx⟩:=hv;exact⟨vs,rfl,WO k.within k.boxes k.st k.T Nx (by grind[XP.get])⟩
  |_=>exact ha.elim
 |KK l=>cases x with
  |KK xs=>
   obtain⟨vs,rfl,Nx⟩:=hv;exact⟨vs,rfl,fO k Nx ha (by grind[XP.get])⟩
  |_=>exact ha.elim
theorem eM{tm:List XV}{vals:List Value}(wM:Bh (XR E w bx) tm vals):∀{l:List (Nat×XP)},(∀q∈l,∃x,tm[q.1]? =some x∧Sb N m q.2 x)→ ∀{y:Ef.V l},Ef.get bk tm l=some y→
  Jz E1 w jH id l y vals
 |[],_,_,_=>trivial
 |(i,p)::l,ha,y,e=>by
  obtain⟨x,hx,hax⟩:=ha (i,p) (by simp);simp only[Ef.get,hx,AEz,AEx]at e;obtain⟨a,e1,b,e2,rfl⟩:=e;obtain⟨v,hv,hr⟩:=wM.get hx;exact⟨⟨v,hv,wz k hr hax e1⟩,eM wM (fun q hq=>ha q (by simp[hq])) e2⟩
end
structure fm (E:Env) (w:World) (bx:List Bx) (m:KY) (s:Bg) (x:s.V) (vals:List Value) (E1:Env):Prop where
 boxes:CD E1 w (Gf.mk id s.ES x.2) (Gf.mk id s.ES x.2) []
 Cv:Jz E1 w (Gf.mk id s.ES x.2) id s.Cv x.1 vals
 ids:∀(i b:Nat),m[i]? =some (some b)→E1.FH i=E.FH b∧E1.FG i=E.FG b
 inj:aw m
 len:m.length=s.ES.length
 S:∀c,E.S c→E1.S c
 lM:∀c,E1.S c→E.S c∨ ¬E.T c
 T:∀c,E.T c→E1.T c
 rest:∃Fk,JF E w bx (B3 bx m) Fk∧Fk.flatten.Nodup∧(∀c∈Fk.flatten,¬E.T c∧ ¬E1.S c∧c<w.heap.size∧E1.T c)∧(∀c,E1.T c→E.T c∨E1.S c∨c∈Fk.flatten)
theorem YC{E:Env}{w:World}{bx:List Bx}{tm:List XV}{vals:List Value}(hB:CD E w bx bx [])(wM:Bh (XR E w bx) tm vals){s:Bg}{m0 m:KY}{x:s.V}
  {N:Nat} (kg:∀(i:Nat) d r,s.ES[i]? =some (.sl d r)→E.FG (N+i)= .slice none 0 0) (hlen:m0.length=s.ES.length) (vE:aw m0) (e:s.fit N m0 tm bx=some (x,m)):Ext m0 m∧ ∃E1,fm E w bx m s x vals E1:=by
 simp only[Bg.fit,AEz,AEx]at e;obtain⟨m1,e1,m2,e2,a,e3,c,e4,e5⟩:=e;cases e5;obtain⟨a1,a2,a3⟩:=TT e1;obtain⟨b1,b2,b4,b3⟩:=Oq e2;have hi:aw m:=b3 (a3 vE);have wT:m.length=s.ES.length:=by rw[b1.1,a1.1,hlen]
 refine⟨a1.trans b1,?_⟩;obtain⟨Gs,g1,g2,g3⟩:=Zi hi hB;obtain⟨q1,q2⟩:=MM (GQ:=id) e4;have st:=hB.st
 let R:Nat→List Nat→List Nat→List Nat→Prop:=fun k G F W=>
  match s.ES[k]? with
  |some (.sl d r)=> ∀(b d':Nat) (rows:List r.D),m[k]? =some (some b)→bx[b]? =some (.sl d' r rows)→Ow w (fun c=>E.S c∨c∈W) d (.sl r) [E.FG b] rows F
  |some (.mem q)=>F=G∧W=[]
  |_=>F=[]∧W=G
 have w4:∀(k:Nat) G,Gs[k]? =some G→ ∃F W,G.Perm (F++W)∧R (0+k) G F W:=by
  intro k G hG;rw[AHp];have hk:k<s.ES.length:=by
   grind
  have hp:s.ES[k]? =some s.ES[k]:=AEX hk;cases hb:s.ES[k]with
  |mem q=>exact⟨G,[],by simp,by grind⟩
  |gone=>exact⟨[],G,by simp,by grind⟩
  |sl d r=>
   obtain⟨y,y1,b,d',y2,y3,y4,y5⟩:=q2 k _ (hp.trans (by rw[hb]));obtain⟨_,ho⟩:=g2 k b _ G y2 y3 hG;grind[Gq]
 obtain⟨Fs,Ws,f1,f2,f3,f4⟩:=aM Gs 0 w4;obtain⟨Fk,k1,k2⟩:=g3;simp only[AF5]at k2;have Yv:Sep E w (Fk.flatten++(Fs.flatten++Ws.flatten)):=k2.perm (AIP _ f3)
 let E1:Env:={
   FH:=fun i=>match m[i]? with|some (some b)=>E.FH b|_=>0
   FG:=fun i=>match m[i]? with|some (some b)=>E.FG b|_=> .nilFunc
   S:=fun c=>E.S c∨c∈Ws.flatten
   T:=fun c=>E.T c∨c∈Ws.flatten∨c∈Fk.flatten }
 have oO:∀(i b:Nat),m[i]? =some (some b)→E1.FH i=E.FH b∧E1.FG i=E.FG b:=fun i b h=>by grind
 have fe:pc N E w bx (B3 bx m) Fk m E1 (Gf.mk id s.ES c):={
  within:=MG (Dx.refl bx)
  boxes:=k1
  st:=st
  T:=fun d hd=>hd.elim .inl fun h=> .inr (.inr h)
  S:=fun d hd=> .inl hd
  ids:=oO
  len:=by omega
  nil:=fun i d r rows e=>by
   have hk:i<s.ES.length:=by
    grind
   obtain⟨y,y1,_⟩:=q2 i _ (AEX hk);have hp:=AEX hk;rw[e]at y1
   generalize s.ES[i]=P at y y1 hp
   cases P with
   |mem q=>cases y1
   |gone=>cases y1
   |sl d0 r0=>grind
  sl:=fun i d r rows hi e=>by
   have hk:i<s.ES.length:=by omega
   obtain⟨y,y1,y2⟩:=q2 i _ (AEX hk);rw[e]at y1
   generalize s.ES[i]=P at y y1 y2
   cases P with
   |mem q=>cases y1
   |gone=>cases y1
   |sl d0 r0=>
    simp only[BP.mk,AEY,Bx.sl.injEq]at y1;grind }
 have nd:=Yv.nodup;have qC:∀c∈Fs.flatten,¬E1.T c:=by
  intro d hd h;rcases h with h|h|h
  ·exact Yv.free d (by simp[hd]) h
  all_goals grind
 have yV:Jz E1 w (Gf.mk id s.ES c) id s.Cv a vals:=eM fe wM (fun q hq=>let⟨x,h1,h2⟩:=a2 q hq;⟨x,h1,Sb.ext b1 h2⟩) e3;refine⟨E1,fm.mk ?_ yV oO hi wT (fun d hd=> .inl hd) ?_ (fun d hd=> .inl hd) ⟨Fk,k1,(AFX.1 nd).1,fun d hd=>⟨Yv.free d (by simp[hd]),?_,Yv.lt d (by simp[hd]),.inr (.inr hd)⟩,?_⟩⟩
 ·refine⟨Fs,⟨by simp_all,fun k B F hk hF=> ?_⟩,?_⟩
  ·have zQ:k<s.ES.length:=by
    grind
   have hp:s.ES[k]? =some s.ES[k]:=AEX zQ;obtain⟨y,y1,y2⟩:=q2 k _ hp;rw[hk]at y1;cases y1;have hG:Gs[k]? =some (Gs[k]'(by omega)):=AEX _;have hW:Ws[k]? =some (Ws[k]'(by omega)):=AEX _;have hr:=f4 k _ F _ hG hF hW;rw[AHp]at hr;have ABY:∀d∈Ws[k]'(by omega),d∈Ws.flatten:=fun d hd=>AHA.2 ⟨_,AGN hW,hd⟩
   generalize AJC:s.ES[k]=P at y y2 hp
   have zb:=fun q=>b2 k q
   simp only[R,hp]at hr;cases P with
   |mem q=>
    obtain⟨b,cs,z1,z2,z3⟩:=y2;obtain⟨rfl,hW0⟩:=hr;obtain⟨hFe,arr,ty,fr,h1,h2,h3⟩:=g2 k b _ _ z1 z2 hG;obtain⟨b',T5,t1,t2,t3⟩:=zb q hp;rw[AHp,z1]at t1;cases t1;rw[z2]at t2;cases t2;refine⟨by simp_all,arr,ty,fr,by simp_all,h2,Zh fe h3 t3 z3⟩
   |sl d r=>
    obtain⟨b,d',z1,z2,z3,z4⟩:=y2;have:=hr b d' y z1 z2;refine⟨z3,?_⟩;rw[(oO k b z1).2];exact DK (fun d hd=>hd.elim .inl fun h=> .inr (ABY d h)) (fun _ _=>rfl) (fun _ _=>rfl) this
   |gone=>exact hr.1
  ·simp only[AF5]
   refine⟨(AFX.1 (AFX.1 nd).2.1).1,qC,fun d hd=>Yv.lt d (by simp[hd]),fun d hd=>hd.elim (fun h=> .inl (st d h)) (fun h=> .inr (.inl h)),fun d hd=> ?_⟩;rcases hd with hd|hd|hd
   ·exact Yv.TQ d hd
   ·exact Yv.lt d (by simp[hd])
   ·exact Yv.lt d (by simp[hd])
 ·intro d hd
  exact hd.elim .inl fun h=> .inr (Yv.free d (by simp[h]))
 ·intro h
  rcases h with h|h
  ·exact Yv.free d (by simp[hd]) (st d h)
  grind
 grind
end Go.Fw
end
section
namespace Go.Fw
def zv:Ty→Value
 | .int k=> .int k 0
 | .bool=> .bool false
 | .str=> .string ⟨#[]⟩
 |_=> .slice none 0 0
def DZ:Ty→List Value
 | .cons c r=>zv c::DZ r
 | .unit=>[]
 |t=>[zv t]
def Ty.cell:Ty→Bool
 | .unit| .cons _ _=>false
 |_=>true
def Ty.fg:Ty→Bool
 | .cons c r=>c.cell&&r.fg
 |_=>true
def eqZ:Value→Value→Bool
 | .int k n,.int k' n' =>decide (k=k')&&decide (n=n')
 | .bool a,.bool b=>decide (a=b)
 | .string a,.string b=>decide (a.data.toList=[])&&decide (b.data.toList=[])
 | .slice none a b,.slice none c d=>decide (a=c)&&decide (b=d)
 |_,_=>false
theorem xC{a b:Value}(h:eqZ a b=true):a=b:=by
 unfold eqZ at h;split at h
 ·simp_all
 ·simp_all
 ·rename_i a b
  simp at h;obtain⟨h1,h2⟩:=h;cases a;cases b;simp_all
 all_goals simp_all
def nH:List Value→List Value→Bool
 |[],[]=>true
 |a::l,b::m=>eqZ a b&&nH l m
 |_,_=>false
theorem lF:∀{l m:List Value},nH l m=true→l=m
 |[],[],_=>rfl
 |a::l,b::m,h=>by
  simp only[nH,AE1]at h;rw[xC h.1,lF h.2]
 |[],_::_,h=>by simp[nH]at h
 |_::_,[],h=>by simp[nH]at h
def Ve(P:Program)(t:Nat):TD→Prop
 | .int k=>P.underlying t=some (.int k)
 | .bool=>P.underlying t=some .bool
 | .str=>P.underlying t=some .string
 | .sl e=>P.underlying t=some (.slice e)
 | .ptr e=>P.underlying t=some (.pointer e)
 | .st fs=> ∃fields,P.underlying t=some (.struct fields)∧fields.toList.map (fun f=>(f.offset,f.type))=fs∧(∀f∈fields.toList,f.name≠ "_" ∧ ∃i,P.info? f.type=some i∧i.size≠0)∧
  P.stoodInHeld t=false∧P.eqGuardType P.depth t=false
 | .other=> ∃d,P.underlying t=some d∧d.isRow=false
structure ABK (P:Program) (T:GH) (t:Nat) (ti:TI):Prop where
 info:∃i,P.info? t=some i∧i.size=ti.size∧i.bytes=ti.bytes∧(∀r,ti.row=some r→r.fg=true∧ ∃z,i.zero=some z∧z.cells.toList=DZ r)
 pA:Ve P t ti.desc
def DO(P:Program)(T:GH):Prop:= ∀t ti,T.get t=some ti→ABK P T t ti
def fR(P:Program)(T:GH)(t:Nat)(ti:TI):Bool:=
 (match P.info? t with
  |some i=>decide (i.size=ti.size)&&decide (i.bytes=ti.bytes)&&(match ti.row with
   |some r=>r.fg&&(match i.zero with
    |some z=>nH z.cells.toList (DZ r)
    |none=>false)
   |none=>true)
  |none=>false)&&
 (match ti.desc,P.underlying t with
  | .int k,some (.int k')=>decide (k=k')
  | .bool,some .bool=>true
  | .str,some .string=>true
  | .sl e,some (.slice e')=>decide (e=e')
  | .ptr e,some (.pointer e')=>decide (e=e')
  | .st fs,some (.struct fields)=>decide (fields.toList.map (fun f=>(f.offset,f.type))=fs)&&
    fields.toList.all (fun f=>decide (f.name≠ "_")&&(match P.info? f.type with|some i=>decide (i.size≠0)|none=>false))&&
    !P.stoodInHeld t&& !P.eqGuardType P.depth t
  | .other,some d=> !d.isRow
  |_,_=>false)
theorem fi{P:Program}{T:GH}{t:Nat}{ti:TI}(h:fR P T t ti=true):ABK P T t ti:=by
 unfold fR at h;rw[AE1]at h;obtain⟨h1,h2⟩:=h;constructor
 ·split at h1
  ·rename_i i hi
   simp only[AE1,AFS]at h1;refine⟨i,hi,h1.1.1,h1.1.2,fun r hr=> ?_⟩;obtain⟨_,h3⟩:=h1;rw[hr]at h3;dsimp only at h3;rw[AE1]at h3;grind[lF]
  simp_all
 ·split at h2
  ·grind[Ve]
  ·grind[Ve]
  ·grind[Ve]
  ·grind[Ve]
  ·grind[Ve]
  ·rename_i fs fields hd hu
   simp only[hd,Ve];grind
  all_goals grind[Ve]
def qb(P:Program)(T:GH):Bool:=T.all fun q=>fR P T q.1 q.2
theorem GH.get_mem:∀{T:GH} {t:Nat} {ti:TI},T.get t=some ti→(t,ti)∈T
 |(u,i)::l,t,ti,h=>by
  simp only[GH.get]at h;split at h
  ·rename_i e;cases h;subst e;simp
  ·exact AIw _ (GH.get_mem h)
 |[],_,_,h=>by simp[GH.get]at h
theorem Z0{P:Program}{T:GH}(h:qb P T=true):DO P T:=fun t ti e=>
 fi (by simpa using AHR.1 h (t,ti) (GH.get_mem e))
section
variable{P:Program} {T:GH} (hT:DO P T)
include hT
theorem DO.size{t:Nat}{ti:TI}(e:T.get t=some ti):(P.info? t).map (·.size)=some ti.size:=by
 obtain⟨i,h1,h2,_⟩:=(hT t ti e).info;simp_all
theorem DO.sizeOf{t:Nat}{ti:TI}(e:T.get t=some ti)(w:World):(Go.sizeOf t).run P w= .ok ti.size w:=by
 obtain⟨i,h1,h2,_⟩:=(hT t ti e).info;simp[Go.sizeOf,typeInfo,h1,h2]
omit hT in
theorem A9{t:Nat}{d:TypeDesc}(h:P.underlying t=some d)(w:World):(Go.underlying t).run P w= .ok d w:=by
 simp[Go.underlying,h]
theorem DO.isAgg{t:Nat}{ti:TI}(e:T.get t=some ti)(w:World):(Go.isAgg t).run P w= .ok ti.desc.agg w:=by
 have hu:=(hT t ti e).pA;unfold Go.isAgg;cases hd:ti.desc<;>rw[hd]at hu<;>simp only[Ve]at hu
 case st fs=>
  obtain⟨fields,hu,_⟩:=hu;simp[A9 hu,TD.agg]
 case other=>
  obtain⟨d,hu,hd⟩:=hu;rw[Sem.run_bind,A9 hu];cases d<;>simp_all[TypeDesc.isRow,TD.agg]
 all_goals simp[A9 hu,TD.agg]
end
end Go.Fw
end
section
namespace Go.Fw
def Hr{Y:Type}(P:Program)(o:Oper)(E:Env)(σ:St)(a:Act)(w:World)(k:K Y)(y:Y):Prop:=
 ∃v w' E' x σ',((execOp a.eval o).run P w= .ok (.value v) w'∨((execOp a.eval o).run P w= .ok .skip w'∧v=undef))∧Rel E' σ' a w'∧XR E' w' σ'.bx x v∧Lh (HC (fun _=>none) σ o.op) E σ.bx w E' σ'.bx w'∧
  σ'.tm.length=σ.tm.length∧k x σ' =some y
section
variable{Y:Type} {P:Program} {T:GH} {o:Oper} {E:Env} {σ:St} {a:Act} {w:World} {k:K Y} {y:Y}
theorem Hr.same(h:Rel E σ a w){v:Value}{x:XV}(hr:(execOp a.eval o).run P w= .ok (.value v) w)(hx:XR E w σ.bx x v)(hk:k x σ=some y):Hr P o E σ a w k y:=
 ⟨v,w,E,x,σ,.inl hr,h,hx,Lh.refl _ E σ.bx w,rfl,hk⟩
theorem SK{vw:List Bx}{κ:IntKind}{n:Int}{v:Value}(h:VR E w vw (.v (.int κ) n) v):v= .int κ n:=by
 have:=h.2;grind[Rd]
theorem MU{vw:List Bx}{b:Bool}{v:Value}(h:VR E w vw (.v .bool b) v):v= .bool b:=by
 have:=h.2;grind[Rd]
theorem Pp{vw:List Bx}{s:List UInt8}{v:Value}(h:VR E w vw (.v .str s) v):v= .string ⟨s.toArray⟩:=by
 have:=h.2;grind[Rd]
theorem VR.int{vw:List Bx}(κ:IntKind)(n:Int):VR E w vw (.v (.int κ) n) (.int κ n):=⟨rfl,by rfl⟩
theorem VR.bool{vw:List Bx}(b:Bool):VR E w vw (.v .bool b) (.bool b):=⟨rfl,by rfl⟩
theorem VR.str{vw:List Bx}(s:List UInt8):VR E w vw (.v .str s) (.string ⟨s.toArray⟩):=⟨rfl,by rfl⟩
theorem O4(s:List UInt8):ByteArray.toList ⟨s.toArray⟩=s:=by
 simp_all
theorem ew(a b:List UInt8):(⟨a.toArray⟩:ByteArray)++⟨b.toArray⟩=⟨(a++b).toArray⟩:=by
 rfl
theorem iU(op:BinOp)(t:TypeId)(x y:Operand)(u v:Value)(hu:∀l,u≠ .agg l)(hn:u≠ .nilIface)(w:World):(eqGuard op t x y u v).run P w= .ok () w:=by
 unfold eqGuard;simp_all
theorem jA{op:BinOp}{κ:IntKind}{m n:Int}{k:AV→Option Y}{y:Y}(e:VI op κ m n k=some y)(t:TypeId)(w:World):
  ∃z v,k z=some y∧(binOp op t (.int κ m) (.int κ n)).run P w= .ok v w∧ ∀E vw,VR E w vw z v:=by
 cases op with
 |add=>exact⟨_,.int κ (κ.wrap (m+n)),e,by simp[binOp,Op.intArith],fun _ _=>VR.int _ _⟩
 |sub=>exact⟨_,.int κ (κ.wrap (m-n)),e,by simp[binOp,Op.intArith],fun _ _=>VR.int _ _⟩
 |mul=>exact⟨_,.int κ (κ.wrap (m*n)),e,by simp[binOp,Op.intArith],fun _ _=>VR.int _ _⟩
 |and=>exact⟨_,.int κ (κ.wrap (BitVec.ofInt κ.bits m &&& BitVec.ofInt κ.bits n).toNat),e,by simp[binOp,Op.intBits],fun _ _=>VR.int _ _⟩
 |or=>exact⟨_,.int κ (κ.wrap (BitVec.ofInt κ.bits m ||| BitVec.ofInt κ.bits n).toNat),e,by simp[binOp,Op.intBits],fun _ _=>VR.int _ _⟩
 |xor=>exact⟨_,.int κ (κ.wrap (BitVec.ofInt κ.bits m ^^^ BitVec.ofInt κ.bits n).toNat),e,by simp[binOp,Op.intBits],fun _ _=>VR.int _ _⟩
 |andNot=>exact⟨_,.int κ (κ.wrap (BitVec.ofInt κ.bits m &&& ~~~BitVec.ofInt κ.bits n).toNat),e,by simp[binOp,Op.intBits],fun _ _=>VR.int _ _⟩
 |eql=>exact⟨_,.bool (m==n),e,by simp[binOp,Op.intCmp],fun _ _=>VR.bool _⟩
 |neq=>exact⟨_,.bool (m !=n),e,by simp[binOp,Op.intCmp],fun _ _=>VR.bool _⟩
 |lss=>exact⟨_,.bool (decide (m<n)),e,by simp[binOp,Op.intCmp],fun _ _=>VR.bool _⟩
 |leq=>exact⟨_,.bool (decide (m≤n)),e,by simp[binOp,Op.intCmp],fun _ _=>VR.bool _⟩
 |gtr=>exact⟨_,.bool (decide (m>n)),e,by simp[binOp,Op.intCmp],fun _ _=>VR.bool _⟩
 |geq=>exact⟨_,.bool (decide (m≥n)),e,by simp[binOp,Op.intCmp],fun _ _=>VR.bool _⟩
 |quo=>
  simp only[VI]at e;split at e
  ·cases e
  ·rename_i hz
   exact⟨_,.int κ (κ.wrap (m.tdiv n)),e,by simp[binOp,Op.intDiv,hz],fun _ _=>VR.int _ _⟩
 |rem=>
  simp only[VI]at e;split at e
  ·cases e
  ·rename_i hz
   exact⟨_,.int κ (m.tmod n),e,by simp[binOp,Op.intDiv,hz],fun _ _=>VR.int _ _⟩
 |_=>simp[VI]at e
theorem VH{op:BinOp}{κ κ':IntKind}{m n:Int}{k:AV→Option Y}{y:Y}(e:QM op κ m n k=some y)(t:TypeId)(w:World):
  ∃z v,k z=some y∧(binOp op t (.int κ m) (.int κ' n)).run P w= .ok v w∧ ∀E vw,VR E w vw z v:=by
 unfold QM at e;split at e
 ·cases e
 ·rename_i hn
  cases op with
  |shl=>exact⟨_,.int κ (κ.wrap (m*2^min n.toNat κ.bits)),e,by simp[binOp,Op.shift,hn],fun _ _=>VR.int _ _⟩
  |shr=>exact⟨_,.int κ (m.fdiv (2^min n.toNat κ.bits)),e,by simp[binOp,Op.shift,hn],fun _ _=>VR.int _ _⟩
  |_=>simp at e
theorem h_{op:BinOp}{s u:List UInt8}{k:AV→Option Y}{y:Y}(e:XF op s u k=some y)(t:TypeId)(w:World):
  ∃z v,k z=some y∧(binOp op t (.string ⟨s.toArray⟩) (.string ⟨u.toArray⟩)).run P w= .ok v w∧ ∀E vw,VR E w vw z v:=by
 have h1:=O4 s;have h2:=O4 u;cases op with
 |eql=>exact⟨_,.bool (s==u),e,by simp[binOp,Op.stringOp,h1,h2],fun _ _=>VR.bool _⟩
 |neq=>exact⟨_,.bool (!(s==u)),e,by simp[binOp,Op.stringOp,h1,h2],fun _ _=>VR.bool _⟩
 |lss=>exact⟨_,.bool (Op.bytesLess s u),e,by simp[binOp,Op.stringOp,h1,h2],fun _ _=>VR.bool _⟩
 |leq=>exact⟨_,.bool (Op.bytesLess s u||s==u),e,by simp[binOp,Op.stringOp,h1,h2],fun _ _=>VR.bool _⟩
 |gtr=>exact⟨_,.bool (!(Op.bytesLess s u||s==u)),e,by simp[binOp,Op.stringOp,h1,h2],fun _ _=>VR.bool _⟩
 |geq=>exact⟨_,.bool (!Op.bytesLess s u),e,by simp[binOp,Op.stringOp,h1,h2],fun _ _=>VR.bool _⟩
 |add=>
  simp only[XF]at e;split at e
  ·rename_i hl
   refine⟨_,.string ⟨(s++u).toArray⟩,e,?_,fun _ _=>VR.str _⟩;have hs:(⟨s.toArray⟩:ByteArray).size=s.length:=by rfl
   have hu:(⟨u.toArray⟩:ByteArray).size=u.length:=by rfl
   have QD: ¬(((⟨s.toArray⟩:ByteArray).size+(⟨u.toArray⟩:ByteArray).size:Nat):Int)>IntKind.i64.max:=by
    grind[IQ,IntKind.max,IntKind.signed,IntKind.bits]
   simp only[binOp,Op.stringOp,Sem.run_ite,AE4 QD,ew];rfl
  simp_all
 |_=>simp[XF]at e
theorem ei{d:TD}{x z:AV}{p:Bool}(e:aX d x z=some p){E:Env}{w:World}{vw:List Bx}{v u:Value}(hx:VR E w vw x v)(hz:VR E w vw z u){t:TypeId}
  (hu:Ve P t d) (n:Nat):(Op.equalIn (n+1) t v u).run P w= .ok p w∧d.agg=false:=by
 unfold aX at e;split at e
 ·rename_i κ j a k b
  split at e
  ·rename_i hj
   subst hj;cases e;rw[SK hx,SK hz];exact⟨run_equalIn_int (P:=P) w n t j κ a b hu,rfl⟩
  simp_all
 ·cases e
  rw[MU hx,MU hz];exact⟨run_equalIn_bool' (P:=P) w n t _ _ hu,rfl⟩
 ·cases e
  rename_i a b;rw[Pp hx,Pp hz];have q:=run_equalIn_string (P:=P) w n t ⟨a.toArray⟩ ⟨b.toArray⟩ hu;rw[O4,O4]at q;exact⟨q,rfl⟩
 simp_all
theorem VA{T:GH}(hT:DO P T){E:Env}{w:World}{vw:List Bx}{xs ys:Array Value}:∀{fields:List Field} {i:Nat} {l m:List AV} {vs us:List Value} {r:Bool},
  (∀f∈fields,f.name≠ "_")→XO E w vw l vs→XO E w vw m us→HV T i (fields.map fun f=>(f.offset,f.type)) l m=some r→
  (∀(j:Nat) v,vs[j]? =some v→xs[i+j]? =some v)→(∀(j:Nat) v,us[j]? =some v→ys[i+j]? =some v)→(Op.eqFields 9999 xs ys fields).run P w= .ok r w
 |[],i,[],[],_,_,r,_,_,_,e,_,_=>by
  simp only[AIA,HV,AEY]at e;subst e;rfl
 |f::fs,i,x::l,z::m,v::vs,u::us,r,hn,hx,hz,e,h1,h2=>by
  simp only[AHb,HV]at e;split at e
  case isFalse=>cases e
  rename_i ho;have hv:=h1 0 v rfl;have hu:=h2 0 u rfl;simp only[AHz]at hv hu;have ABN:=hn f (by simp);split at e
  case h_2=>cases e
  rename_i ti N3;split at e
  case h_2=>cases e
  rename_i p hp;simp only[AEx]at e;obtain⟨r',e',rfl⟩:=e;have AFh:=VA hT (fields:=fs) (i:=i+1) (l:=l) (m:=m) (vs:=vs) (us:=us) (r:=r') (fun f hf=>hn f (by simp[hf])) hx.2 hz.2 e'
   (fun j v' hj=>by have:=h1 (j+1) v' (by simp_all);rwa [show i+(j+1)=i+1+j by omega]at this)
   (fun j v' hj=>by have:=h2 (j+1) v' (by simp_all);rwa [show i+(j+1)=i+1+j by omega]at this)
  have W5:=(hT f.type ti N3).pA;obtain⟨q,na⟩:=ei (P:=P) hp hx.1 hz.1 (t:=f.type) W5 9998;have V8:=DO.isAgg hT N3 w;rw[na]at V8;have p1:(part f.type xs f.offset).run P w= .ok v w:=by simp[part,V8,ho,hv]
  have p2:(part f.type ys f.offset).run P w= .ok u w:=by simp[part,V8,ho,hu]
  simp only[Op.eqFields,ABN,ne_eq,not_false_eq_true,AHL,Sem.run_bind,p1,p2,Result.andThen_ok,q,AFh,Sem.run_ite,Sem.run_pure];grind
 |[],_,_::_,_,_,_,_,_,_,_,e,_,_=>by simp[HV]at e
 |[],_,[],_::_,_,_,_,_,_,_,e,_,_=>by simp[HV]at e
 |_::_,_,[],_,_,_,_,_,_,_,e,_,_=>by simp[HV]at e
 |_::_,_,x::_,[],_,_,_,_,_,_,e,_,_=>by simp[HV]at e
 |_::_,_,_::_,_::_,[],_,_,_,hx,_,_,_,_=>hx.elim
 |_::_,_,_::_,_::_,_::_,[],_,_,_,hz,_,_,_=>hz.elim
theorem Zv(op:BinOp)(t:TypeId)(p q:Bool)(hu:P.underlying t=some .bool)(w:World):(op= .eql→(binOp op t (.bool p) (.bool q)).run P w= .ok (.bool (p==q)) w)∧
  (op= .neq→(binOp op t (.bool p) (.bool q)).run P w= .ok (.bool (!(p==q))) w):=by
 have h:=run_equalIn_bool' (P:=P) w 9999 t p q hu;constructor
 ·rintro rfl
  grind[binOp,Op.equal,Op.maxDepth,Sem.run_bind,Result.andThen_ok,Sem.run_pure]
 ·rintro rfl
  grind[binOp,Op.equal,Op.maxDepth,Sem.run_bind,Result.andThen_ok,Sem.run_pure]
theorem V4{T:GH}(hT:DO P T){t:Nat}{op:BinOp}{x z:XV}{k:AV→Option Y}{y:Y}(e:hO T t op x z k=some y){E:Env}{w:World}{vw:List Bx}{v u:Value}
  (hx:XR E w vw x v) (hz:XR E w vw z u) (ox oz:Operand):
  ∃r val,k r=some y∧(do eqGuard op t ox oz v u;binOp op t v u:Sem Value).run P w= .ok val w∧VR E w vw r val:=by
 have guard:∀(v u:Value),(∀l,v≠ .agg l)→v≠ .nilIface→ ∀val,(binOp op t v u).run P w= .ok val w→(do eqGuard op t ox oz v u;binOp op t v u:Sem Value).run P w= .ok val w:=by
  grind[Sem.run_bind,iU,Result.andThen_ok]
 unfold hO at e;split at e
 ·rename_i j m j' n
  have hv:=SK (E:=E) (vw:=vw) hx;have hu:=SK (E:=E) (vw:=vw) hz;subst hv hu;have done:∀(q:∃r val,k r=some y∧(binOp op t (.int j m) (.int j' n)).run P w= .ok val w∧ ∀E vw,VR E w vw r val),∃r val,k r=some y∧(do eqGuard op t ox oz (.int j m) (.int j' n);binOp op t (.int j m) (.int j' n):Sem Value).run P w= .ok val w∧VR E w vw r val:=by
   grind
  split at e
  ·exact done (VH e t w)
  ·exact done (VH e t w)
  ·split at e
   ·rename_i hj
    subst hj;exact done (jA e t w)
   simp_all
 ·rename_i s s'
  have hv:=Pp (E:=E) (vw:=vw) hx;have hu:=Pp (E:=E) (vw:=vw) hz;subst hv hu;obtain⟨r,val,h1,h2,h3⟩:=h_ (P:=P) e t w;grind
 ·rename_i p q
  have hv:=MU (E:=E) (vw:=vw) hx;have hu:=MU (E:=E) (vw:=vw) hz;subst hv hu;split at e
  ·rename_i ti N3
   have W5:=(hT t ti N3).pA;split at e
   ·rename_i hd
    rw[hd]at W5;split at e
    ·exact⟨_,_,e,guard _ _ (by simp) (by simp) _ ((Zv _ t p q W5 w).1 rfl),VR.bool _⟩
    ·exact⟨_,_,e,guard _ _ (by simp) (by simp) _ ((Zv _ t p q W5 w).2 rfl),VR.bool _⟩
    simp_all
   simp_all
  simp_all
 ·rename_i l m
  obtain⟨vs,rfl,Nx⟩:=hx;obtain⟨us,rfl,hus⟩:=hz;have key:∀r,((T.fields t).bind fun fs=>HV T 0 fs l m)=some r→(Op.equalIn 10000 t (.agg vs) (.agg us)).run P w= .ok r w∧P.eqGuardType P.depth t=false:=by
   intro r hr;simp only[AEz]at hr;obtain⟨fs,hf,hr⟩:=hr;unfold GH.fields at hf;split at hf
   ·rename_i fs' hd
    cases hf;simp only[AEx]at hd;obtain⟨ti,N3,hd⟩:=hd;have W5:=(hT t ti N3).pA;rw[hd]at W5;obtain⟨fields,hu,zN,nJ,cN,hg⟩:=W5;grind[Program.fieldsOf,run_equalIn_agg,VA]
   simp_all
  split at e
  ·rename_i r hr
   obtain⟨q,hg⟩:=key r hr;refine⟨_,_,e,?_,VR.bool r⟩;grind[Sem.run_bind,run_eqGuard_agg,Result.andThen_ok,run_eql_struct]
  ·rename_i r hr
   obtain⟨q,hg⟩:=key r hr;refine⟨_,_,e,?_,VR.bool (!r)⟩;grind[Sem.run_bind,run_eqGuard_agg,Result.andThen_ok,run_neq_struct]
  simp_all
 simp_all
end
end Go.Fw
end
section
namespace Go.Fw
section
variable{Y:Type} {P:Program} {T:GH} (hT:DO P T) {E:Env} {w:World} {vw:List Bx}
include hT
theorem sX{t:Nat}{s b:Nat}{fs:List ACN}{rw:Option Ty}(e:T.get t=some ⟨s,b,.st fs,rw⟩):∃fields,P.underlying t=some (.struct fields)∧fields.toList.map (fun f=>(f.offset,f.type))=fs∧
  ∀f∈fields.toList,∃i,P.info? f.type=some i∧i.size≠0:=by
 obtain⟨fields,h1,h2,h3,_⟩:=(hT t _ e).pA;simp_all
omit hT in
theorem bW{a:Addr}{f:Field}(h:∃i,P.info? f.type=some i∧i.size≠0):(fieldPlace a f).run P w= .ok (a.add f.offset) w:=by
 obtain⟨i,h1,h2⟩:=h;simp[fieldPlace,Go.sizeOf,typeInfo,h1,h2]
theorem Nw{t:Nat}{s b:Nat}{fs:List ACN}{rw:Option Ty}(e:T.get t=some ⟨s,b,.st fs,rw⟩){f o u:Nat}(hf:fs[f]? =some (o,u)){a:Addr}:
  (Instr.fieldAt t (.pointer (some a)) f).run P w= .ok (.pointer (some (a.add o))) w:=by
 obtain⟨fields,h1,h2,h3⟩:=sX hT e;subst h2;simp only[AG5,AEx]at hf;obtain⟨fld,jt,he⟩:=hf;have hm:=AGN jt;have zG:fields[f]? =some fld:=by simp_all
 simp only[AG0]at he;simp[Instr.fieldAt,A9 h1,zG,Instr.sureAddr,bW (h3 fld hm),he.1]
theorem WK{t:Nat}{x z:XV}{f:Nat}(e:gE T t x f=some z){v:Value}(hx:XR E w vw x v):∃u,(Instr.fieldAt t v f).run P w= .ok u w∧XR E w vw z u:=by
 unfold gE at e;split at e
 case h_2=>cases e
 rename_i s b fs _ N3;split at e
 case h_2=>cases e
 rename_i o u hf;split at e
 ·rename_i b' j
  cases e;obtain⟨h1,rfl⟩:=hx;exact⟨_,Nw hT N3 hf,h1,by rw[Addr.add_eq]⟩
 ·rename_i b' p i sz j
  cases e;obtain⟨h0,h1⟩:=hx;cases v with
  |pointer oa=>
   cases oa with
   |none=>simp[TB]at h0
   |some a=>
    obtain⟨ab,ao,sp⟩:=a;cases sp with
    |some _=>simp[TB]at h0
    |none=>
     refine⟨_,Nw hT N3 hf,by rw[Addr.add_eq];rfl,?_⟩;revert h1;split
     ·rintro⟨hp,q,ys,bb,o',len,cap,g1,g2,g3,g4⟩
      refine⟨hp,q,ys,bb,o',len,cap,g1,g2,g3,?_⟩;simp only[Value.pointer.injEq,AEY,Addr.mk.injEq,AHM]at g4;grind[Addr.add_eq,Nat.add_assoc]
     all_goals simp_all
  |_=>simp[TB]at h0
 ·rename_i s r y j
  cases e;obtain⟨bb,o',cs,rfl,h2,h3,h4,h5⟩:=hx;refine⟨_,Nw hT N3 hf,bb,o',cs,?_,h2,h3,h4,h5⟩;rw[Addr.add_eq,AHn]
 simp_all
theorem YU{t:Nat}{x z:XV}{f:Nat}(e:qB T t x f=some z){v:Value}(hx:XR E w vw x v):∃u,(Instr.field t v f).run P w= .ok u w∧XR E w vw z u:=by
 unfold qB at e;split at e
 case h_2=>cases e
 rename_i s b fs _ l N3;obtain⟨vs,rfl,Nx⟩:=hx;split at e
 case h_2=>cases e
 rename_i o u hf;split at e
 case h_2=>cases e
 rename_i ti htu;obtain⟨fields,h1,h2,h3⟩:=sX hT N3;subst h2;simp only[AG5,AEx]at hf;obtain⟨fld,jt,he⟩:=hf;have zG:fields[f]? =some fld:=by simp_all
 simp only[AG0]at he;obtain⟨rfl,rfl⟩:=he;have V8:=DO.isAgg hT htu w;have KS:=DO.sizeOf hT htu w;split at e
 ·rename_i ha
  cases e;rw[ha]at V8;refine⟨.agg (vs.extract fld.offset (fld.offset+ti.size)),?_,_,rfl,?_⟩
  ·simp[Instr.field,A9 h1,zG,asAgg,part,V8,KS]
  ·have:(vs.extract fld.offset (fld.offset+ti.size)).toList=(vs.toList.drop fld.offset).take ti.size:=by
    simp_all
   rw[this];exact Bh.take _ (Bh.drop _ Nx)
 ·rename_i ha
  simp only[AGX]at ha;rw[ha]at V8;simp only[AEx]at e;obtain⟨y,hy,rfl⟩:=e;obtain⟨v,hv,hr⟩:=Bh.get Nx hy;refine⟨v,?_,hr⟩;have:vs[fld.offset]? =some v:=by simp_all
  simp[Instr.field,A9 h1,zG,asAgg,part,V8,this]
theorem G6{t:Nat}{r:Ty}(h:T.JB t r=true):∃e ti,P.underlying t=some (.slice e)∧T.get e=some ti∧ti.size=r.n∧ti.bytes≤512∧ti.row=some r:=by
 unfold GH.JB at h;split at h
 ·rename_i ti N3
  simp only[AE1,AFS]at h;unfold GH.elem at N3;split at N3
  ·rename_i e hd
   simp only[AEx]at hd;obtain⟨tj,h1,h2⟩:=hd;have:=(hT t tj h1).pA;rw[h2]at this;exact⟨e,ti,this,N3,h.1.1,h.1.2,h.2⟩
  simp_all
 simp_all
theorem Pq{t:Nat}(h:T.isStr t=true):P.underlying t=some .string:=by
 unfold GH.isStr at h;split at h
 ·rename_i hd
  simp only[AEx]at hd;obtain⟨tj,h1,h2⟩:=hd;have:=(hT t tj h1).pA;rw[h2]at this;exact this
 simp_all
theorem Xx{t:Nat}(h:T.uR t=true):∃e,P.underlying t=some (.slice e):=by
 unfold GH.uR at h;split at h
 ·rename_i e hd
  simp only[AEx]at hd;obtain⟨tj,h1,h2⟩:=hd;have:=(hT t tj h1).pA;rw[h2]at this;exact⟨e,this⟩
 simp_all
omit hT in
theorem Fp{x:XV}{n:Int}(e:TZ x=some n){v:Value}(hx:XR E w vw x v):∃κ,v= .int κ n:=by
 unfold TZ at e;split at e
 ·cases e;exact⟨_,SK (E:=E) (w:=w) (vw:=vw) hx⟩
 ·cases e
theorem TS{t:Nat}{r:Ty}(h:T.JB t r=true){κ:IntKind}{i:Int}{a:Addr}{len cap:Nat}(h0:0≤i)(h1:i<(len:Int)):
  (Instr.indexAt t (.slice (some a) len cap) (.int κ i)).run P w= .ok (.pointer (some (a.add (i.toNat*r.n)))) w:=by
 obtain⟨e,ti,hu,N3,hs,_⟩:=G6 hT h;have KS:=DO.sizeOf hT N3 w;simp[Instr.indexAt,asIntOf,A9 hu,h0,h1,KS,hs]
omit hT in
theorem jg{bx:List Bx}{Fs:List AAO}(hB:JF E w bx bx Fs)(st:∀c,E.S c→E.T c){x:AV}{v:Value}(hv:VR E w bx x v){q:Ty}{ys:List q.D}(e:JI bx x=some ⟨q,ys⟩):
  ∃a cap,v= .slice a ys.length cap∧ys.length≤cap∧(ys.length=0∨ ∃b o,a=some ⟨b,o,none⟩):=by
 have:=Rg (Dx.refl bx) hB st hv e;simp only[Rd]at this;obtain⟨a,cap,h1,h2,h3⟩:=this;simp only[AGv,AHM]at h1;exact⟨a,cap,h1,h2,h3.imp id fun⟨b,o,h,_⟩=>⟨b,o,h⟩⟩
theorem Ww{σ:St}{Fs:List AAO}(hB:JF E w σ.bx σ.bx Fs)(st:∀c,E.S c→E.T c){t:Nat}{x i:XV}{k:K Y}{y:Y}(e:YB σ T t x i k=some y){v u:Value}
  (hx:XR E w σ.bx x v) (hi:XR E w σ.bx i u):∃z val,k z σ=some y∧(Instr.indexAt t v u).run P w= .ok val w∧XR E w σ.bx z val:=by
 unfold YB at e;split at e
 ·rename_i s r rows n hn
  obtain⟨κ,rfl⟩:=Fp hn hi;split at e
  case isFalse=>cases e
  rename_i RJ;split at e
  case isFalse=>cases e
  rename_i hb;obtain⟨h0,h1⟩:=hb;simp only[XR,VR,Rd]at hx;obtain⟨a,cap,hv,hl,hx⟩:=hx;simp only[AGv,AHM]at hv;subst hv;rcases hx with hx|⟨b,o,rfl,hb,hx⟩
  ·omega
  ·have IV:n.toNat<rows.length:=by omega
   obtain⟨cs,c1,c2,c3⟩:=hx n.toNat _ (Lg IV);refine⟨_,_,e,TS hT RJ h0 h1,b,o+n.toNat*r.n,cs,?_,by omega,c1,c2,by omega⟩;rw[Addr.add_eq];rfl
 ·rename_i b p n hn
  obtain⟨κ,rfl⟩:=Fp hn hi;split at e
  case h_2=>cases e
  rename_i q hq;split at e
  case isFalse=>cases e
  rename_i RJ;split at e
  case isFalse=>cases e
  rename_i hb;obtain⟨h0,h1⟩:=hb
  change VR E w σ.bx (.ref b p) v at hx
  obtain⟨a,cap,rfl,hl,ha⟩:=jg hB st hx hq;rcases ha with ha|⟨b',o,rfl⟩
  ·omega
  ·refine⟨_,_,e,TS hT RJ h0 h1,by rw[Addr.add_eq];rfl,?_⟩
   simp only[JI]at hq;obtain⟨_,hx⟩:=hx;grind[Addr.add_eq]
 ·rename_i b p off n' n hn
  obtain⟨κ,rfl⟩:=Fp hn hi;split at e
  case h_2=>cases e
  rename_i q hq;split at e
  case isFalse=>cases e
  rename_i RJ;split at e
  case isFalse=>cases e
  rename_i hb;obtain⟨h0,h1⟩:=hb;simp only[JI]at hq;obtain⟨h00,hx⟩:=hx;revert hx;split
  ·rename_i d r rows gU
   rw[gU]at hq;dsimp only at hq
   rintro⟨hp,q',ys,a,len,cap,g1,g2,g3,rfl⟩
   have P_:=T3 (Dx.refl _) hB st gU hp g1 g3;simp only[Rd]at P_;obtain⟨a',cap',ee,hle,P_⟩:=P_;simp only[AGv,Value.slice.injEq,AHM]at ee;obtain⟨rfl,rfl,rfl⟩:=ee;rcases P_ with P_|⟨b',o,rfl,_,_⟩
   ·omega
   ·unfold OE
    rw[AE4 (by omega)];have hq1:q.1=q':=by
     grind
    refine⟨_,_,e,TS hT RJ h0 h1,by simp only[Option.map];rw[Addr.add_eq,Addr.add_eq];rfl,?_⟩;grind[Addr.add_eq,Nat.add_assoc,Nat.add_mul]
  all_goals simp_all
 simp_all
theorem TH{σ:St}{t:Nat}{x i:XV}{k:K Y}{y:Y}(e:PC T t σ x i k=some y){v u:Value}(hx:XR E w vw x v)(hi:XR E w vw i u):
  ∃z val,k z σ=some y∧(Instr.index t v u).run P w= .ok val w∧XR E w vw z val:=by
 unfold PC at e;split at e
 ·rename_i s n hn
  obtain⟨κ,rfl⟩:=Fp hn hi;have hv:=Pp (E:=E) (w:=w) (vw:=vw) hx;subst hv;split at e
  case isFalse=>cases e
  rename_i cN;split at e
  case isFalse=>cases e
  rename_i hb;obtain⟨h0,h1⟩:=hb;refine⟨_,.int .u8 ((s.getD n.toNat 0).toNat:Int),e,?_,VR.int (E:=E) (vw:=vw) _ _⟩;have IV:n.toNat<s.length:=by omega
  have:(⟨s.toArray⟩:ByteArray)[n.toNat]? =some s[n.toNat]:=by
   rw[getElem?_pos _ _ (by grind[ByteArray.size])];rfl
  simp[Instr.index,asIntOf,A9 (Pq hT cN),h0,this,IV]
 simp_all
omit hT in
theorem Tg{x z:XV}{i:Nat}(e:Z5 x i=some z){v:Value}(hx:XR E w vw x v):∃u,(Instr.extract v i).run P w= .ok u w∧XR E w vw z u:=by
 unfold Z5 at e;split at e
 case h_2=>cases e
 rename_i l;obtain⟨vs,rfl,Nx⟩:=hx;split at e
 ·rename_i x hx
  cases e;obtain⟨v,hv,hr⟩:=Nx.get hx;have:vs[i]? =some v:=by simpa using hv
  exact⟨v,by simp[Instr.extract,this],hr⟩
 ·rename_i q hx
  cases e;obtain⟨v,hv,ws,rfl,hr⟩:=Nx.get hx;have:vs[i]? =some (.agg ws):=by simpa using hv
  exact⟨.agg ws,by simp[Instr.extract,this],ws,rfl,hr⟩
 ·cases e
omit hT in
theorem Yx{bx:List Bx}{Fs:List AAO}(hB:JF E w bx bx Fs)(st:∀c,E.S c→E.T c){x:AV}{n:Nat}(e:lenOf bx x=some n){v:Value}(hx:VR E w bx x v):
  ∃a cap,v= .slice a n cap:=by
 cases x with
 |nil=>simp only[lenOf,AEY]at e;subst e;exact⟨_,_,hx⟩
 |sl s r x=>
  simp only[lenOf,AEY]at e;subst e;simp only[VR,Rd]at hx;obtain⟨a,cap,h,_⟩:=hx;simp only[AGv,AHM]at h;exact⟨a,cap,h⟩
 |ref b p=>
  simp only[lenOf]at e;split at e
  ·rename_i d r rows hb
   simp only[AEx]at e;obtain⟨q,hq,rfl⟩:=e;obtain⟨a,cap,h,_⟩:=jg hB st hx (q:=q.1) (ys:=q.2) (by simp only[JI,hb];exact hq);exact⟨a,cap,h⟩
  ·cases e
 |win b p off m=>
  simp only[lenOf]at e;split at e
  ·rename_i d r rows hb
   cases e;simp only[VR,hb]at hx;obtain⟨_,_,q,ys,a,len,cap,_,_,_,rfl⟩:=hx;exact⟨_,_,rfl⟩
  ·cases e
 |_=>simp[lenOf]at e
omit hT in
theorem M7{big:Bool}{x z:XV}{k:AV→Option Y}{y:Y}(e:gH big x z k=some y){v u:Value}(hx:XR E w vw x v)(hz:XR E w vw z u)(t s:Array TypeId)(tt:TypeId):
  ∃r val,k r=some y∧(if big then Builtin.max_ t tt #[v,u]else Builtin.min_ t tt #[v,u]).run P w= .ok val w∧VR E w vw r val:=by
 unfold gH at e;split at e
 ·rename_i j m j' n
  have hv:=SK (E:=E) (w:=w) (vw:=vw) hx;have hu:=SK (E:=E) (w:=w) (vw:=vw) hz;subst hv hu;split at e
  case isFalse=>cases e
  rename_i hj;subst hj;cases big with
  |true=>exact⟨_,.int j (if n>m then n else m),e,by simp[Builtin.max_,Builtin.max2],VR.int _ _⟩
  |false=>exact⟨_,.int j (if n<m then n else m),e,by simp[Builtin.min_,Builtin.min2],VR.int _ _⟩
 ·cases e
omit hT in
theorem Xi{op:UnOp}{x:XV}{k:AV→Option Y}{y:Y}(e:v7 op x k=some y){v:Value}(hx:XR E w vw x v):
  ∃r val,k r=some y∧(Op.unary op v).run P w= .ok val w∧VR E w vw r val:=by
 unfold v7 at e;split at e
 ·have hv:=MU (E:=E) (w:=w) (vw:=vw) hx
  subst hv;exact⟨_,_,e,by simp[Op.unary],VR.bool _⟩
 ·rename_i j n
  have hv:=SK (E:=E) (w:=w) (vw:=vw) hx;subst hv;exact⟨_,.int j (j.wrap (0-n)),e,by simp[Op.unary,Op.intArith],VR.int _ _⟩
 ·cases e
end
end Go.Fw
end
section
namespace Go.Fw
theorem Lc{a:Ty}(x:a.D):bP rfl x=x:=rfl
theorem UY{w:World}{S:Nat→Prop}:∀{r:Ty} {d j:Nat} {cs:List Value} {x:r.D} {F:AAO} {t:Ty} {y:t.D},Ow w S d r cs x F→Az r j x=some ⟨t,y⟩→
  ∃v F1 F2,cs[j]? =some v∧Ow w S d t [v] y F1∧F.Perm (F1++F2)∧
   ∀(w':World) (S':Nat→Prop) (v':Value) (y':t.D) (Zl:AAO) (x':r.D),(∀b,S b→S' b)→(∀b,S b→w'.heap[b]? =w.heap[b]?)→(∀b∈F2,w'.heap[b]? =w.heap[b]?)→
    Ow w' S' d t [v'] y' Zl→Cx r j x t y' =some x'→ ∃F',F'.Perm (Zl++F2)∧Ow w' S' d r (cs.set j v') x' F'
 | .cons c r,d,0,cs,x,F,t,y,h,e=>by
  simp only[Ow]at h;obtain⟨v,l,A,B,rfl,rfl,h1,h2⟩:=h;simp only[Az,AEY,AFU]at e;obtain⟨rfl,e⟩:=e;obtain rfl:=AGy e;refine⟨v,A,B,rfl,h1,AI5 _,fun w' S' v' y' Zl x' hS dI hF ho hx=> ?_⟩;simp only[Cx,AIt,Lc,AEY]at hx;subst hx;refine⟨Zl++B,AI5 _,?_⟩;simp only[Ow,List.set_cons_zero];exact⟨v',l,Zl,B,rfl,rfl,ho,DK hS dI hF h2⟩
 | .cons c r,d,j+1,cs,x,F,t,y,h,e=>by
  simp only[Ow]at h;obtain⟨v,l,A,B,rfl,rfl,h1,h2⟩:=h;simp only[Az]at e;obtain⟨u,F1,F2,k1,k2,k3,k4⟩:=UY h2 e;refine⟨u,F1,A++F2,by simp_all,k2,?_,fun w' S' v' y' Zl x' hS dI hF ho hx=> ?_⟩
  ·grind
  ·simp only[Cx,AEx]at hx
   obtain⟨z,hz,rfl⟩:=hx;obtain⟨F',p1,p2⟩:=k4 w' S' v' y' Zl z hS dI (fun b hb=>hF b (by simp[hb])) ho hz;refine⟨A++F',?_,?_⟩
   ·grind
   ·simp only[Ow,List.set_cons_succ]
    exact⟨v,_,A,F',rfl,rfl,DK hS dI (fun b hb=>hF b (by simp[hb])) h1,p2⟩
 | .int k,d,0,cs,x,F,t,y,h,e=>by
  simp only[Az,AEY,AFU]at e;obtain⟨rfl,e⟩:=e;obtain rfl:=AGy e;have hc:=PJ h;obtain⟨v,rfl⟩:∃v,cs=[v]:=by
   cases cs with
   |nil=>simp[Ty.n]at hc
   |cons a l=>cases l with
    |nil=>simp_all
    |cons _ _=>simp[Ty.n]at hc
  refine⟨v,F,[],rfl,h,by simp,fun w' S' v' y' Zl x' hS dI hF ho hx=>⟨Zl,by simp,?_⟩⟩;simp only[Cx,AIt,Lc,AEY]at hx;simp_all
 | .bool,d,0,cs,x,F,t,y,h,e=>by
  simp only[Az,AEY,AFU]at e;obtain⟨rfl,e⟩:=e;obtain rfl:=AGy e;have hc:=PJ h;obtain⟨v,rfl⟩:∃v,cs=[v]:=by
   cases cs with
   |nil=>simp[Ty.n]at hc
   |cons a l=>cases l with
    |nil=>simp_all
    |cons _ _=>simp[Ty.n]at hc
  refine⟨v,F,[],rfl,h,by simp,fun w' S' v' y' Zl x' hS dI hF ho hx=>⟨Zl,by simp,?_⟩⟩;simp only[Cx,AIt,Lc,AEY]at hx;simp_all
 | .str,d,0,cs,x,F,t,y,h,e=>by
  simp only[Az,AEY,AFU]at e;obtain⟨rfl,e⟩:=e;obtain rfl:=AGy e;have hc:=PJ h;obtain⟨v,rfl⟩:∃v,cs=[v]:=by
   cases cs with
   |nil=>simp[Ty.n]at hc
   |cons a l=>cases l with
    |nil=>simp_all
    |cons _ _=>simp[Ty.n]at hc
  refine⟨v,F,[],rfl,h,by simp,fun w' S' v' y' Zl x' hS dI hF ho hx=>⟨Zl,by simp,?_⟩⟩;simp only[Cx,AIt,Lc,AEY]at hx;simp_all
 | .sl r,d,0,cs,x,F,t,y,h,e=>by
  simp only[Az,AEY,AFU]at e;obtain⟨rfl,e⟩:=e;obtain rfl:=AGy e;have hc:=PJ h;obtain⟨v,rfl⟩:∃v,cs=[v]:=by
   cases cs with
   |nil=>simp[Ty.n]at hc
   |cons a l=>cases l with
    |nil=>simp_all
    |cons _ _=>simp[Ty.n]at hc
  refine⟨v,F,[],rfl,h,by simp,fun w' S' v' y' Zl x' hS dI hF ho hx=>⟨Zl,by simp,?_⟩⟩;simp only[Cx,AIt,Lc,AEY]at hx;simp_all
 | .unit,_,_,_,_,_,_,_,_,e=>by simp[Az]at e
 | .int _,_,_+1,_,_,_,_,_,_,e=>by simp[Az]at e
 | .bool,_,_+1,_,_,_,_,_,_,e=>by simp[Az]at e
 | .str,_,_+1,_,_,_,_,_,_,e=>by simp[Az]at e
 | .sl _,_,_+1,_,_,_,_,_,_,e=>by simp[Az]at e
theorem YL{Fs:List AAO}{i:Nat}{G G':AAO}(h:Fs[i]? =some G):(Fs.set i G').flatten.Perm (G'++(Fs.set i []).flatten):=by
 have IV:=(AEy.1 h).1;have p1:=N7 (Fs:=Fs.set i G') (b:=i) (F:=G') (AHY (by omega));simp_all
theorem fF{w:World}{S:Nat→Prop}{d:Nat}{q:Ty}{a:Option Addr}{len cap:Nat}{ys:List q.D}{F:AAO}(h:Ow w S (d+1) (.sl q) [.slice a len cap] ys F){i:Nat}(hi:i<ys.length):
  ∃b o arr ty fr cs G R,a=some ⟨b,o,none⟩∧w.heap[b]? =some (.cells arr ty fr)∧ga fr arr.size∧o+i*q.n+q.n≤arr.size∧cs.length=q.n∧A_ w b (o+i*q.n) cs∧
   Ow w S d q cs (rowAt q ys i) G∧F.Perm (G++(b::R))∧
   ∀(w':World) (S':Nat→Prop) (G3:Array Value) (T5:List Value) (Rb:q.D) (G':AAO),(∀c,S c→S' c)→(∀c,S c→w'.heap[c]? =w.heap[c]?)→(∀c∈R,w'.heap[c]? =w.heap[c]?)→
    w'.heap[b]? =some (.cells G3 ty fr)→G3.size=arr.size→(∀k,(k<o+i*q.n∨o+i*q.n+q.n≤k)→G3[k]? =arr[k]?)→T5.length=q.n→A_ w' b (o+i*q.n) T5→
    Ow w' S' d q T5 Rb G'→ ∃F',F'.Perm (G'++(b::R))∧Ow w' S' (d+1) (.sl q) [.slice a len cap] (ys.set i Rb) F':=by
 simp only[Ow]at h;obtain⟨a',cap',e,hle,h⟩:=h;simp only[AGv,Value.slice.injEq,AHM]at e;obtain⟨rfl,rfl,rfl⟩:=e;rcases h with⟨h1,_⟩|⟨b,o,arr,ty,fr,Fs,rfl,hb,KS,hu,rfl,hFl,S3⟩
 ·omega
 ·have hG:Fs[i]? =some (Fs[i]'(by omega)):=AEX _
  generalize Fs[i]'(by omega)=G at hG
  obtain⟨cs,c1,c2,c3⟩:=S3 i _ G (Lg hi) hG;have hbound:o+i*q.n+q.n≤arr.size:=by
   have:(i+1)*q.n≤cap*q.n:=AGS _ (by omega);grind
  refine⟨b,o,arr,ty,fr,cs,G,(Fs.set i []).flatten,rfl,hb,fun i hi=>hu i (by omega),hbound,c1,c2,c3,?_,?_⟩
  ·refine(List.Perm.cons b (N7 hG)).trans ?_
   exact List.perm_middle.symm
  ·intro w' S' G3 T5 Rb G' hS dI hR nz qh hk cO yb ho
   refine⟨b::(Fs.set i G').flatten,?_,?_⟩
   ·grind[List.Perm.cons,YL,trans]
   ·simp only[Ow]
    refine⟨_,cap,by simp,by simp_all,.inr ⟨b,o,G3,ty,fr,Fs.set i G',rfl,nz,by omega,by simp_all,rfl,by simp_all,fun k y H hy hH=> ?_⟩⟩;by_cases e:k=i
    ·grind
    ·rw[AHB (by omega)]at hy
     rw[AHB (by omega)]at hH;obtain⟨ds,d1,d2,d3⟩:=S3 k y H hy hH;refine⟨ds,d1,fun j v hj=> ?_,DK hS dI (fun c hc=>hR c (AHA.2 ⟨H,AGN (by grind:(Fs.set i [])[k]? =some H),hc⟩)) d3⟩;have lr:=(AEy.1 hj).1;have hold:=d2 j v hj;simp only[World.cell?,hb,AHm,AE6,AGn]at hold;simp only[World.cell?,nz,AHm,AE6,AGn];rw[hk,hold];rcases Nat.lt_or_gt_of_ne e with e|e
     ·left
      have:(k+1)*q.n≤i*q.n:=AGS _ e;grind
     ·right
      have:(i+1)*q.n≤k*q.n:=AGS _ e;grind
theorem aP{w:World}{S:Nat→Prop}:∀{p:List O7} {d:Nat} {r:Ty} {h:Value} {rows:List r.D} {F:AAO} {q:Ty} {ys:List q.D},Ow w S d (.sl r) [h] rows F→CK r rows p→
  Eh r rows p=some ⟨q,ys⟩→p.length<d→ ∃h' F1 F2,F4 w h p=some h'∧Ow w S (d-p.length) (.sl q) [h'] ys F1∧F.Perm (F1++F2)∧
   ∀(w':World) (S':Nat→Prop) (gX:List q.D) (Zl:AAO) (B6:List r.D),(∀c,S c→S' c)→(∀c,S c→w'.heap[c]? =w.heap[c]?)→(∀c∈F2,w'.heap[c]? =w.heap[c]?)→
    Ow w' S' (d-p.length) (.sl q) [h'] gX Zl→aG r rows p q gX=some B6→ ∃F',F'.Perm (Zl++F2)∧Ow w' S' d (.sl r) [h] B6 F'
 |[],d,r,h,rows,F,q,ys,ho,_,hg,_=>by
  simp only[Eh,AEY,AFU]at hg;obtain⟨rfl,e⟩:=hg;obtain rfl:=AGy e;refine⟨h,F,[],CI,ho,by simp,fun w' S' gX Zl B6 _ _ _ l3 hs=>⟨Zl,by simp,?_⟩⟩;simp only[aG,AIt,Lc,AEY]at hs;simp_all
 |s::p,d,r,h,rows,F,q,ys,ho,hp,hg,hd=>by
  obtain⟨d,rfl⟩:∃n,d=n+1:=⟨d-1,by omega⟩;simp only[CK]at hp;obtain⟨hi,KS,hp⟩:=hp;simp only[Eh]at hg;obtain⟨a,len,cap,rfl⟩:∃a len cap,h= .slice a len cap:=by
   have:=ho;simp only[Ow]at this;grind
  split at hg
  case h_2=>cases hg
  rename_i q' x' Vj;rw[Vj]at hp;obtain⟨b,o,arr,ty,fr,cs,G,R,rfl,hb,hu,hbd,c1,c2,c3,bA,hback⟩:=fF ho hi;obtain⟨v,A1,A2,k1,k2,k3,k4⟩:=UY c3 Vj;obtain⟨h',F1,F2,m1,m2,m3,m4⟩:=aP k2 hp hg (by simp_all);have yI:d+1-(s::p).length=d-p.length:=by simp
  refine⟨h',F1,F2++A2++(b::R),?_,by simp_all,?_,?_⟩
  ·simp only[F4]
   rw[KS,c2 _ _ k1];omega
  ·grind
  ·intro w' S' gX Zl B6 hS dI zH l3 SI
   rw[yI]at l3;simp only[aG,Vj]at SI;simp only[AEz,AEx]at SI;obtain⟨x2,hx2,Rb,hrow,rfl⟩:=SI;obtain⟨B1,p1,p2⟩:=m4 w' S' gX Zl x2 hS dI (fun c hc=>zH c (by simp[hc])) l3 hx2;obtain⟨B2,p3,p4⟩:=k4 w' S' v x2 B1 Rb hS dI (fun c hc=>zH c (by simp[hc])) p2 hrow;have um:cs.set s.j v=cs:=by
    apply AH_;grind
   rw[um]at p4;have uZ:=zH b (by simp);obtain⟨F',p5,p6⟩:=hback w' S' arr cs Rb B2 hS dI (fun c hc=>zH c (by simp[hc])) (uZ.trans hb) rfl (fun _ _=>rfl) c1 (c2.of_block uZ) p4;grind
end Go.Fw
end
section
namespace Go.Fw
def OR(E:Env)(w:World)(vw:List Bx):Option XV→Option Value→Prop
 |none,none=>True
 |some x,some v=>XR E w vw x v
 |_,_=>False
section
variable{Y:Type} {P:Program} {T:GH} (hT:DO P T) {E:Env} {w:World} {vw:List Bx}
theorem run_sliceBound{κ:IntKind}{i:Int}{y:Nat}{code:BoundsCode}(h0:0≤i)(h1:i≤(y:Int)):(Instr.sliceBound (.int κ i) y code).run P w= .ok i.toNat w:=by
 simp[Instr.sliceBound,asIntOf,h0,h1]
theorem NK{len cap:Nat}(hc:len≤cap){lo hi:Option XV}{k:Nat→Nat→Option Y}{y:Y}(e:Jl len lo hi k=some y){lv hv:Option Value}
  (hl:OR E w vw lo lv) (hh:OR E w vw hi hv) (b:Bool):∃l h,k l h=some y∧l≤h∧h≤len∧(Instr.sliceBounds b len cap lv hv none).run P w= .ok (l,h,cap) w:=by
 unfold Jl at e;dsimp only at e;split at e
 case h_2=>cases e
 rename_i l h el eh;split at e
 case isFalse=>cases e
 rename_i hb;obtain⟨b1,b2,b3⟩:=hb;refine⟨l.toNat,h.toNat,e,by omega,by omega,?_⟩;cases hi with
 |none=>cases hv with
  |some _=>exact hh.elim
  |none=>
   simp only[AEY]at eh;subst eh;cases lo with
   |none=>cases lv with
    |some _=>exact hl.elim
    |none=>
     simp only[AEY]at el;subst el;rfl
   |some x=>cases lv with
    |none=>exact hl.elim
    |some v=>
     obtain⟨κ,rfl⟩:=Fp (E:=E) (w:=w) (vw:=vw) el hl;simp[Instr.sliceBounds,run_sliceBound (P:=P) (w:=w) (κ:=κ) (i:=l) (y:=len) b1 (by omega)]
 |some x=>cases hv with
  |none=>exact hh.elim
  |some v=>
   obtain⟨κ,rfl⟩:=Fp (E:=E) (w:=w) (vw:=vw) eh hh;have e1:=fun code=>run_sliceBound (P:=P) (w:=w) (κ:=κ) (i:=h) (y:=cap) (code:=code) (by omega) (by omega)
   cases lo with
   |none=>cases lv with
    |some _=>exact hl.elim
    |none=>
     simp only[AEY]at el;subst el;simp[Instr.sliceBounds,e1]
   |some x=>cases lv with
    |none=>exact hl.elim
    |some v=>
     obtain⟨κ',rfl⟩:=Fp (E:=E) (w:=w) (vw:=vw) el hl;have e2:=fun code=>run_sliceBound (P:=P) (w:=w) (κ:=κ') (i:=l) (y:=h.toNat) (code:=code) b1 (by omega)
     simp[Instr.sliceBounds,e1,e2]
theorem cc(s:List UInt8)(l h:Nat):(⟨s.toArray⟩:ByteArray).extract l h=⟨((s.drop l).take (h-l)).toArray⟩:=by
 apply ByteArray.ext;simp[List.extract_eq_take_drop]
include hT
theorem XA{σ:St}{Fs:List AAO}(hB:JF E w σ.bx σ.bx Fs)(st:∀c,E.S c→E.T c){t:Nat}{x:XV}{lo hi:Option XV}{k:K Y}{y:Y}(e:XW T t σ x lo hi k=some y)
  {v:Value} {lv hv:Option Value} (hx:XR E w σ.bx x v) (hl:OR E w σ.bx lo lv) (hh:OR E w σ.bx hi hv):
  ∃z val,k z σ=some y∧(Instr.sliceAt t v lv hv none).run P w= .ok val w∧XR E w σ.bx z val:=by
 unfold XW at e;split at e
 ·rename_i s
  split at e
  case isFalse=>cases e
  rename_i cN;have hu:=Pq hT cN;have Qq:=Pp (E:=E) (w:=w) (vw:=σ.bx) hx;subst Qq;obtain⟨l,h,ek,h1,h2,hr⟩:=NK (P:=P) (cap:=s.length) (AGh _) e hl hh false;refine⟨_,.string ⟨((s.drop l).take (h-l)).toArray⟩,ek,?_,VR.str (E:=E) (vw:=σ.bx) _⟩;have hs:(⟨s.toArray⟩:ByteArray).size=s.length:=by rfl
  simp[Instr.sliceAt,A9 hu,Instr.slice,hs,hr,cc]
 ·rename_i s r rows
  split at e
  case isFalse=>cases e
  rename_i RJ;obtain⟨el,ti,hu,N3,hs,_⟩:=G6 hT RJ;have KS:=DO.sizeOf hT N3 w
  change VR E w σ.bx (.sl s r rows) v at hx
  have l_:=hx;simp only[VR,Rd]at l_;obtain⟨a,cap,Qq,hle,_⟩:=l_;simp only[AGv,AHM]at Qq;subst Qq;obtain⟨l,h,ek,h1,h2,hr⟩:=NK (P:=P) hle e hl hh true;refine⟨_,OE r.n l (h-l) a cap,ek,?_,?_⟩
  ·simp[Instr.sliceAt,A9 hu,Instr.slice,hr,KS,hs,OE]
  grind[XR,VR,kt]
 ·rename_i b p
  split at e
  case h_2=>cases e
  rename_i q hq;split at e
  case isFalse=>cases e
  rename_i RJ;obtain⟨el,ti,hu,N3,hs,_⟩:=G6 hT RJ;have KS:=DO.sizeOf hT N3 w
  change VR E w σ.bx (.ref b p) v at hx
  obtain⟨a,cap,rfl,hle,_⟩:=jg hB st hx hq;obtain⟨l,h,ek,h1,h2,hr⟩:=NK (P:=P) hle e hl hh true;refine⟨_,OE q.1.n l (h-l) a cap,ek,?_,?_⟩
  ·simp[Instr.sliceAt,A9 hu,Instr.slice,hr,KS,hs,OE]
  ·simp only[JI]at hq
   obtain⟨_,hx⟩:=hx;refine⟨by rfl,?_⟩;grind
 simp_all
omit hT in
theorem Sk{f:Nat→Option AV}:∀{n j:Nat} {l:List AV},Ti f j n=some l→l.length=n∧ ∀(i:Nat) x,l[i]? =some x→f (j+i)=some x
 |0,j,l,e=>by simp only[Ti,AEY]at e;subst e;simp
 |n+1,j,l,e=>by
  simp only[Ti,AEz,AEx]at e;obtain⟨x,hx,l',hl,rfl⟩:=e;obtain⟨h1,h2⟩:=Sk hl;refine⟨by simp[h1],fun i z hz=> ?_⟩;cases i with
  |zero=>simp at hz;subst hz;exact hx
  |succ i=>
   have:=h2 i z (by simpa using hz)
   rwa [show j+1+i=j+(i+1)by omega]at this
omit hT in
theorem PE{B:Nat→Prop}{t:Ty}{x:t.D}{v:Value}(h:Rd w B t [v] x)(hs:t.scalar=true):VR E w vw (.v t x) v:=by
 refine⟨hs,?_⟩;cases t<;>first
  |(simpa only[Rd]using h)
  |(simp[Ty.scalar]at hs)
omit hT in
theorem nC{s:Bool}{t:Ty}{x:t.D}{v:Value}(h:Rd w (if s then E.S else E.T) t [v] x):VR E w vw (j5 s ⟨t,x⟩) v:=by
 cases t with
 |sl r=>simp only[j5,VR];exact h
 |int k=>exact PE h rfl
 |bool=>exact PE h rfl
 |str=>exact PE h rfl
 |unit=>trivial
 |cons c r=>trivial
omit hT in
theorem YR{s:O7}:∀{p:List O7} {r:Ty} {rows:List r.D} {q:Ty} {ys:List q.D} {t:Ty} {x:List t.D},CK r rows p→Eh r rows p=some ⟨q,ys⟩→s.i<ys.length→s.sz=q.n→
  Az q s.j (rowAt q ys s.i)=some ⟨.sl t,x⟩→CK r rows (p++[s])∧Eh r rows (p++[s])=some ⟨t,x⟩
 |[],r,rows,q,ys,t,x,_,hg,hi,hs,hc=>by
  simp only[Eh,AEY,AFU]at hg;obtain⟨rfl,e⟩:=hg;obtain rfl:=AGy e;refine⟨?_,?_⟩
  ·simp only[AHS,CK,hc]
   exact⟨hi,hs,trivial⟩
  ·simp only[AHS,Eh,hc]
 |s'::p,r,rows,q,ys,t,x,hp,hg,hi,hs,hc=>by
  simp only[CK]at hp;obtain⟨h1,h2,hp⟩:=hp;simp only[Eh]at hg;split at hg
  ·rename_i q' x' Vj
   rw[Vj]at hp;obtain⟨a,b⟩:=YR hp hg hi hs hc;refine⟨?_,?_⟩
   ·simp only[AHZ,CK,Vj]
    exact⟨h1,h2,a⟩
   ·simp only[AHZ,Eh,Vj]
    exact b
  ·cases hg
omit hT in
theorem aq{s:O7}:∀{p:List O7} {h:Value} {b o len cap:Nat} {v:Value},F4 w h p=some (.slice (some ⟨b,o,none⟩) len cap)→w.cell? ⟨b,o+s.i*s.sz+s.j,none⟩=some v→
  F4 w h (p++[s])=some v
 |[],h,b,o,len,cap,v,e,hc=>by
  rw[CI]at e;cases e;simp[F4,hc,CI]
 |s'::p,h,b,o,len,cap,v,e,hc=>by
  cases h with
  |slice a l c=>
   cases a with
   |none=>simp[F4]at e
   |some a=>
    simp only[F4]at e;split at e
    ·rename_i h' hh
     simp only[AHZ,F4,hh];exact aq e hc
    ·cases e
  |_=>simp[F4]at e
omit hT in
theorem Ho{bx:List Bx}{Fs:List AAO}(hB:JF E w bx bx Fs)(st:∀c,E.S c→E.T c){x z:AV}{i:Nat}(e:GP bx x i=some z){v:Value}(hx:VR E w bx x v):
  ∃b o u,v= .pointer (some ⟨b,o,none⟩)∧w.cell? ⟨b,o+i,none⟩=some u∧VR E w bx z u:=by
 cases x with
 |Fg b j=>
  simp only[GP]at e;split at e
  ·rename_i cs hb
   obtain⟨F,⟨_,arr,ty,fr,ha,hu,hv⟩,_⟩:=hB.get hb;obtain⟨u,h1,h2⟩:=Bh.get hv e;refine⟨_,_,u,hx.2,?_,h2⟩;simp only[World.cell?,ha,AHm,AE6,AGn];simpa using h1
  ·cases e
 |GZ b p r sz j=>
  simp only[GP]at e;split at e
  ·rename_i d q rows hb
   split at e
   case isFalse=>cases e
   rename_i hd;simp only[AEz]at e;obtain⟨⟨q',gX⟩,hg,e⟩:=e;split at e
   case isFalse=>cases e
   rename_i KS;simp only[AEx]at e;obtain⟨⟨t,y⟩,hc,rfl⟩:=e;simp only[VR,hb]at hx;obtain⟨_,hp,q1,ys,bb,o,len,cap,g1,g2,g3,rfl⟩:=hx;rw[hg]at g1;simp only[AEY,AFU]at g1;obtain⟨rfl,g1⟩:=g1;obtain rfl:=AGy g1;dsimp only at KS hc;obtain⟨F,⟨hd1,ho⟩,hF⟩:=hB.get hb;have P_:=T3 (Dx.refl bx) hB st hb hp hg g3;have AJR:=P_;simp only[Rd]at P_;obtain⟨a',cap',ee,hle,P_⟩:=P_;simp only[AGv,Value.slice.injEq,AHM]at ee;obtain⟨rfl,rfl,rfl⟩:=ee;rcases P_ with P_|⟨b1,o1,e7,_,P_⟩
   ·omega
   ·cases e7
    obtain⟨cs,c1,c2,c3⟩:=P_ r _ (Lg g2);obtain⟨u,hu,hur⟩:=Uk c3 hc;have RL:=c2 _ _ hu;rw[←KS]at RL;refine⟨_,_,u,rfl,by rw[AHn];exact RL,?_⟩;cases t with
    |sl t' =>
     simp only[lI];split
     ·rename_i hdd
      obtain⟨h',F1,F2,m1,m2,_,_⟩:=aP ho hp hg hd;rw[g3]at m1;cases m1;rw[show d-p.length=0+1 by omega]at m2;obtain⟨b2,o2,arr,ty,fr,cs2,G,R,e2,_,_,_,_,k2,k3,_,_⟩:=fF m2 g2;cases e2;obtain⟨v2,A1,A2,z1,z2,_,_⟩:=UY k3 hc;have og:=k2 _ _ z1;rw[←KS,RL]at og;cases og;simp only[Ow]at z2;simp only[VR];exact z2.1
     ·simp only[VR,hb]
      have:=YR (s:=⟨r,sz,j+i⟩) hp hg g2 KS hc;simp only[Rd]at hur;obtain⟨a2,cap2,e2,_⟩:=hur;simp only[AGv,AHM]at e2;refine⟨by rw[e2];rfl,this.1,⟨_,this.2⟩,aq g3 RL⟩
    |int k=>exact PE hur rfl
    |bool=>exact PE hur rfl
    |str=>exact PE hur rfl
    |unit=>trivial
    |cons c r=>trivial
  ·cases e
 |KU s r y j=>
  simp only[GP,AEx]at e;obtain⟨⟨t,y'⟩,hc,rfl⟩:=e;obtain⟨bb,o,cs,rfl,h2,h3,h4,h5⟩:=hx;obtain⟨u,hu,hur⟩:=Uk h5 hc;refine⟨_,_,u,rfl,by rw[AHn];exact h4 _ _ hu,nC hur⟩
 |_=>simp[GP]at e
omit hT in
theorem UH{bx:List Bx}{Fs:List AAO}(hB:JF E w bx bx Fs)(st:∀c,E.S c→E.T c){x:AV}{v:Value}(hx:VR E w bx x v){b o:Nat}(hv:v= .pointer (some ⟨b,o,none⟩)):
  ∀{l:List AV} {j:Nat},(∀(i:Nat) z,l[i]? =some z→GP bx x (j+i)=some z)→ ∃cs:List Value,cs.length=l.length∧A_ w b (o+j) cs∧XO E w bx l cs
 |[],_,_=>⟨[],rfl,fun _ _ h=>by simp at h,trivial⟩
 |z::l,j,h=>by
  obtain⟨b',o',u,e1,e2,e3⟩:=Ho hB st (h 0 z rfl) hx;subst hv;simp only[Value.pointer.injEq,AEY,Addr.mk.injEq,AHM]at e1;obtain⟨rfl,rfl⟩:=e1;obtain⟨cs,c1,c2,c3⟩:=UH hB st hx rfl (l:=l) (j:=j+1) (fun i y hy=>by
   have:=h (i+1) y (by simpa using hy)
   rwa [show j+1+i=j+(i+1)by omega])
  refine⟨u::cs,by simp[c1],fun i y hy=> ?_,e3,c3⟩;cases i with
  |zero=>simp at hy;subst hy;exact e2
  |succ i=>
   have:=c2 i y (by simpa using hy)
   rwa [show o+(j+1)+i=o+j+(i+1)by omega]at this
theorem g_{σ:St}{Fs:List AAO}(hB:JF E w σ.bx σ.bx Fs)(st:∀c,E.S c→E.T c){t:Nat}{x z:XV}(e:Yn T t σ x=some z){v:Value}(hx:XR E w σ.bx x v):
  ∃u,(Instr.loadAt t v).run P w= .ok u w∧XR E w σ.bx z u:=by
 unfold Yn at e;split at e
 case h_2=>cases e
 rename_i x ti N3;split at e
 case isTrue=>cases e
 rename_i KS;have V8:=DO.isAgg hT N3 w;split at e
 ·rename_i ha
  rw[ha]at V8;simp only[AEx]at e;obtain⟨l,hl,rfl⟩:=e;obtain⟨h1,h2⟩:=Sk hl;have h0:0<l.length:=by omega
  obtain⟨b,o,u,hv,_,_⟩:=Ho hB st (h2 0 _ (AEX h0)) hx;obtain⟨cs,c1,c2,c3⟩:=UH hB st hx hv (l:=l) (j:=0) (fun i y hy=>by simp_all);subst hv;have W5:=(hT t ti N3).pA;cases hd:ti.desc with
  |st fs=>
   rw[hd]at W5;obtain⟨fields,hu,_⟩:=W5;refine⟨.agg cs.toArray,run_loadAt_mid w b o t cs _ (by grind[A_,World.rangeAt]) hu rfl ?_,cs.toArray,rfl,by omega⟩;grind[DO.size]
  |_=>grind[TD.agg]
 ·rename_i ha
  simp only[AGX]at ha;rw[ha]at V8;simp only[AEx]at e;obtain⟨y,hy,rfl⟩:=e;obtain⟨b,o,u,hv,hc,hr⟩:=Ho hB st hy hx;subst hv;refine⟨u,?_,hr⟩;simp only[AHz]at hc;simp[Instr.loadAt,Instr.sureAddr,loadVar,V8,hc]
end
end Go.Fw
end
section
namespace Go.Fw
theorem aV{w:World}{S:Nat→Prop}{d:Nat}{q:Ty}:Ow w S d (.sl q) [.slice none 0 0] [] []:=by
 cases d with
 |zero=>simp only[Ow,Rd];simp_all
 |succ d=>simp only[Ow];simp_all
theorem pJ{w:World}{S:Nat→Prop}{d:Nat}{r:Ty}{a:Option Addr}{len cap:Nat}{ys:List r.D}{F:AAO}(h:Ow w S (d+1) (.sl r) [.slice a len cap] ys F){off n:Nat}(hn:off+n≤ys.length):
  ∃F1 F2,F.Perm (F1++F2)∧Ow w S (d+1) (.sl r) [OE r.n off n a cap] ((ys.drop off).take n) F1:=by
 simp only[Ow]at h⊢;obtain⟨a',cap',e,hc,h⟩:=h;simp only[AGv,Value.slice.injEq,AHM]at e;obtain⟨rfl,rfl,rfl⟩:=e;have hl:((ys.drop off).take n).length=n:=by grind
 by_cases h0:cap=off
 ·subst h0
  refine⟨[],F,by simp,a,0,by simp[OE,hl],by omega,.inl ⟨rfl,rfl⟩⟩
 ·rcases h with⟨h,rfl⟩|⟨b,o,arr,ty,fr,Fs,rfl,hb,KS,hu,rfl,hFl,hr⟩
  ·omega
  ·have p:Fs.flatten.Perm (((Fs.drop off).take n).flatten++((Fs.take off).flatten++(Fs.drop (off+n)).flatten)):=by
    grind[List.drop_drop,List.take_append_drop,List.flatten_append,List.append_assoc,List.Perm.append_right,List.perm_append_comm]
   refine⟨b::((Fs.drop off).take n).flatten,(Fs.take off).flatten++(Fs.drop (off+n)).flatten,List.Perm.cons b p,some ⟨b,o+off*r.n,none⟩,cap-off,?_,by omega,.inr ⟨b,o+off*r.n,arr,ty,fr,_,rfl,hb,?_,hu,rfl,?_,?_⟩⟩
   ·grind[OE,Addr.add_eq]
   ·have:off*r.n+(cap-off)*r.n=cap*r.n:=by rw[←AHi];grind
    omega
   all_goals grind
theorem Le.keep{E E':Env}(h:Le E E'){w:World}{vw:List Bx}(st:∀c,E.S c→E.T c):Mb E w vw E' w vw:=
 ⟨AGh _,fun b _=>by rw[h.FH],h.T,h.S,st,fun _ _=>rfl,fun b d r rows _ e=>⟨d,rows,e,fun p hp q ys hg=>⟨hp,⟨ys,hg,rfl⟩,fun h' hh=>by rw[h.FG];omega⟩⟩⟩
theorem CD.share{E:Env}{w:World}{vw bx:List Bx}{F W G:AAO}(h:CD E w vw bx (F++W++G)):
  let E':Env:={ E with S:=fun c=>E.S c∨c∈W,T:=fun c=>E.T c∨c∈W }
  Le E E'∧CD E' w vw bx (F++G):=by
 intro E';have st:=h.st;have hle:Le E E':=⟨rfl,rfl,fun c hc=> .inl hc,fun c hc=> .inl hc,fun c hc=>hc.elim .inl fun h' => .inr (.inr h'),fun c hc=>hc.elim .inl fun h' => .inr (h.re c (by simp[h']))⟩;refine⟨hle,?_⟩;obtain⟨Fs,⟨h1,h2⟩,h3⟩:=h;refine⟨Fs,⟨h1,fun k B F' hk hF=> ?_⟩,?_⟩
 ·have:=h2 k B F' hk hF
  cases B with
  |mem cs=>
   obtain⟨rfl,arr,ty,fr,a1,a2,a3⟩:=this;exact⟨rfl,arr,ty,fr,a1,a2,a3.imp fun _ _ hv=>EN (hle.keep st) hv⟩
  |sl d r rows=>exact⟨this.1,DK hle.S (fun _ _=>rfl) (fun _ _=>rfl) this.2⟩
  |dead=>exact this
 ·have h4:Sep E w (W++(Fs.flatten++(F++G))):=h3.perm (by
   grind)
  refine⟨(AFX.1 h4.nodup).2.1,fun c hc ht=> ?_,fun c hc=>h4.lt c (by simp_all),fun c hc=>hc.imp (st c) id,fun c hc=>hc.elim (h4.TQ c) fun h' =>h4.lt c (by simp[h'])⟩;rcases ht with ht|ht
  ·exact h4.free c (AGf.2 (.inr hc)) ht
  ·exact(AFX.1 h4.nodup).2.2 c ht c hc rfl
structure Em (E:Env) (w:World) (vw bx:List Bx) (G:AAO) (E':Env) (K5:List Bx) (F:AAO):Prop where
 le:Le E E'
 len:K5.length=bx.length
 within:∀(b:Nat) (B:Bx),K5[b]? =some B→B= .dead∨bx[b]? =some B
 boxes:CD E' w vw K5 (F++G)
theorem Em.refl{E:Env}{w:World}{vw bx:List Bx}{G:AAO}(h:CD E w vw bx G):Em E w vw bx G E bx []:=
 ⟨Le.refl E,rfl,fun _ _ h=> .inr h,h⟩
theorem Dx.bZ{E E':Env}{w:World}{vw bx K5:List Bx}{G F:AAO}(h:Dx bx vw)(k:Em E w vw bx G E' K5 F):Dx K5 vw:=fun b B e=>
 (k.within b B e).elim .inl (h b B)
theorem Sq{E:Env}{w:World}{vw bx:List Bx}{G:AAO}(h:CD E w vw bx G)(hw:Dx bx vw){d:Nat}(hd:1≤d){t:Ty}{x:AV}{v:Value}(hv:VR E w vw x v){y:t.D}{K5:List Bx}{d':Nat}
  (e:Tl d t x bx=some (y,K5,d')):1≤d'∧d'≤d∧ ∃E' F,Em E w vw bx G E' K5 F∧Ow w E'.S (d'-1) t [v] y F:=by
 unfold Tl at e;split at e
 ·rename_i u z
  simp only[AEx,AG0]at e;obtain⟨z',e1,rfl,rfl,rfl⟩:=e;obtain⟨e2,e3⟩:=FM e1;subst e2;subst e3;refine⟨hd,AGh _,E,[],Em.refl h,?_⟩;obtain⟨hs,hr⟩:=hv;cases u<;>simp_all[Ty.scalar,Ow,Rd]
 ·split at e
  ·simp only[AEY,AG0]at e
   obtain⟨rfl,rfl,rfl⟩:=e;simp only[VR]at hv;subst hv;exact⟨hd,AGh _,E,[],Em.refl h,aV⟩
  simp_all
 ·rename_i r z
  split at e
  ·rename_i q
   simp only[AEx,AG0]at e;obtain⟨z',e1,rfl,rfl,rfl⟩:=e;obtain⟨e2,e3⟩:=FM e1;subst e2;subst e3;refine⟨AGh _,hd,E,[],Em.refl h,?_⟩;simp only[VR]at hv;simp only[AIQ,Ow];simp_all
  simp_all
 ·rename_i b
  split at e
  case h_2=>cases e
  rename_i q;split at e
  case h_2=>cases e
  rename_i db r z hb;simp only[AEx,AG0]at e;obtain⟨z',e1,rfl,rfl,rfl⟩:=e;obtain⟨e2,e3⟩:=FM e1;subst e2;subst e3;obtain⟨F0,⟨hd1,ho⟩,hB⟩:=h.take hb;have hvv:v=E.FG b:=by
   grind[VR,Qc,CI]
  subst hvv;obtain⟨F1,W,hp,l3⟩:=Gq (d:=min d (db+1)-1) (by omega) ho;have NJ:=hB.perm (AH2 G hp);obtain⟨hle,P9⟩:=NJ.share;refine⟨by omega,Nat.min_le_left _ _,_,F1,⟨hle,by simp,fun k B hk=> ?_,P9⟩,l3⟩;grind
 ·rename_i b off n
  split at e
  case h_2=>cases e
  rename_i q;split at e
  case h_2=>cases e
  rename_i db r z hb;simp only[AEx,AG0]at e;obtain⟨z',e1,rfl,rfl,rfl⟩:=e;obtain⟨e2,e3⟩:=FM e1;subst e2;subst e3;obtain⟨F0,⟨hd1,ho⟩,hB⟩:=h.take hb;simp only[VR,Qc hw hb,CI]at hv;obtain⟨_,_,q',ys,a,len,cap,hg,hn,hh,rfl⟩:=hv;simp only[Eh,AEY,AFU]at hg;obtain⟨rfl,hg⟩:=hg;obtain rfl:=AGy hg;simp only[AEY]at hh;rw[hh]at ho;obtain⟨db,rfl⟩:∃m,db=m+1:=⟨db-1,by omega⟩;obtain⟨A1,A2,hp0,wZ⟩:=pJ ho hn;obtain⟨F1,W,hp,l3⟩:=Gq (d:=min d (db+1+1)-1) (by omega) wZ;have hB1:CD E w vw (bx.set b .dead) (A1++G):=by
   refine CD.drop (G':=A2) (hB.perm ?_);grind
  have NJ:=hB1.perm (AH2 G hp);obtain⟨hle,P9⟩:=NJ.share;refine⟨by omega,Nat.min_le_left _ _,_,F1,⟨hle,by simp,fun k B hk=> ?_,P9⟩,l3⟩;grind
 simp_all
theorem Qy{w:World}{vw:List Bx}:∀{r:Ty} {E:Env} {bx:List Bx} {G:AAO} {d:Nat} {l:List AV} {vs:List Value} {y:r.D} {K5:List Bx} {d':Nat},CD E w vw bx G→Dx bx vw→1≤d→
  XO E w vw l vs→cellsIn d r l bx=some (y,K5,d')→1≤d'∧d'≤d∧ ∃E' F,Em E w vw bx G E' K5 F∧Ow w E'.S (d'-1) r vs y F
 | .unit,E,bx,G,d,[],[],y,K5,d',h,hw,hd,_,e=>by
  simp only[cellsIn,AEY,AG0]at e;obtain⟨_,rfl,rfl⟩:=e;exact⟨hd,AGh _,E,[],Em.refl h,by simp only[Ow];simp_all⟩
 | .cons c r,E,bx,G,d,x::l,v::vs,y,K5,d',h,hw,hd,hv,e=>by
  simp only[cellsIn,AEz,AEx,AG0]at e;obtain⟨⟨y1,XS,d1⟩,e1,⟨y2,Ry,d2⟩,e2,rfl,rfl,rfl⟩:=e;dsimp only at e2⊢;obtain⟨a1,a2,E1,F1,k1,o1⟩:=Sq h hw hd hv.1 e1;have il:=k1.le.keep (w:=w) (vw:=vw) h.st;obtain⟨b1,b2,E2,F2,k2,o2⟩:=Qy (G:=F1++G) k1.boxes (hw.bZ k1) a1 (hv.2.imp fun _ _ h=>EN il h) e2;obtain⟨A,W,hp,o1'⟩:=Gq (d:=d'-1) (by omega) o1;have hB:=k2.boxes.perm (G':=(F2++A)++W++G) (by
   grind)
  obtain⟨hle,P9⟩:=hB.share;refine⟨b1,AHK b2 a2,_,A++F2,⟨(k1.le.trans k2.le).trans hle,k2.len.trans k1.len,fun b B hb=>(k2.within b B hb).elim .inl (k1.within b B),P9.perm (AH2 _ List.perm_append_comm)⟩,?_⟩;simp only[Ow];refine⟨v,vs,A,F2,rfl,rfl,?_,?_⟩
  ·refine DK (S:=fun b=>E1.S b∨b∈W) ?_ (fun _ _=>rfl) (fun _ _=>rfl) o1'
   intro c hc;exact hc.elim (fun h=> .inl (k2.le.S c h)) .inr
  ·refine DK (S:=E2.S) ?_ (fun _ _=>rfl) (fun _ _=>rfl) o2
   simp_all
 | .unit,_,_,_,_,_::_,_,_,_,_,_,_,_,_,e=>by simp[cellsIn]at e
 | .unit,_,_,_,_,[],_::_,_,_,_,_,_,_,hv,_=>hv.elim
 | .cons _ _,_,_,_,_,[],_,_,_,_,_,_,_,_,e=>by simp[cellsIn]at e
 | .cons _ _,_,_,_,_,_::_,[],_,_,_,_,_,_,hv,_=>hv.elim
 | .int _,_,_,_,_,_,_,_,_,_,_,_,_,_,e=>by simp[cellsIn]at e
 | .bool,_,_,_,_,_,_,_,_,_,_,_,_,_,e=>by simp[cellsIn]at e
 | .str,_,_,_,_,_,_,_,_,_,_,_,_,_,e=>by simp[cellsIn]at e
 | .sl _,_,_,_,_,_,_,_,_,_,_,_,_,_,e=>by simp[cellsIn]at e
theorem fI{E:Env}{w:World}{vw:List Bx}{x:AV}{v:Value}(h:VR E w vw x v)(hk:x.known=true):v.oneCell' =true∧v.cells= #[v]:=by
 have aux:∀{v:Value},isSlice v=true→v.oneCell' =true∧v.cells= #[v]:=by intro v h;cases v<;>simp_all[isSlice,Value.oneCell',Value.cells]
 have AD2:∀{v:Value},TB v=true→v.oneCell' =true∧v.cells= #[v]:=by intro v h;cases v<;>simp_all[TB,Value.oneCell',Value.cells]
 cases x with
 |v t y=>
  obtain⟨hs,hr⟩:=h;cases t<;>simp[Ty.scalar]at hs<;>simp only[Rd,AGv,AHM]at hr<;>subst hr<;>exact⟨rfl,rfl⟩
 |sl s r y=>
  simp only[VR,Rd]at h;obtain⟨a,cap,h,_⟩:=h;simp only[AGv,AHM]at h;subst h;exact⟨rfl,rfl⟩
 |nil=>simp only[VR]at h;subst h;exact⟨rfl,rfl⟩
 |ref b p=>exact aux h.1
 |win b p off n=>exact aux h.1
 |Fg b j=>rw[h.2];exact⟨rfl,rfl⟩
 |GZ b p i sz j=>exact AD2 h.1
 |KU s r y j=>obtain⟨bb,o,cs,rfl,_⟩:=h;exact⟨rfl,rfl⟩
 |fn f HI=>rw[h.2];exact⟨rfl,rfl⟩
 |cI f rows=>obtain⟨ps,rfl,_⟩:=h;exact⟨rfl,rfl⟩
 |kj=>simp only[VR]at h;subst h;exact⟨rfl,rfl⟩
 |undef=>simp[AV.known]at hk
theorem l5{E:Env}{w:World}{vw:List Bx}:∀{l:List AV} {vs:List Value},XO E w vw l vs→l.all AV.known=true→ ∀v∈vs,v.oneCell' =true
 |[],[],_,_=>by simp
 |x::l,v::vs,h,hk=>by
  simp only[AHw,AE1]at hk;intro u hu;rcases AGD.1 hu with rfl|hu
  ·exact(fI h.1 hk.1).1
  ·exact l5 h.2 hk.2 u hu
theorem bR{E:Env}{w:World}{vw:List Bx}{x:XV}{v:Value}(h:XR E w vw x v)(hk:x.cells.all AV.known=true)(hn:x.cells≠[]):XO E w vw x.cells v.cells.toList∧ ∀u∈v.cells.toList,u.oneCell' =true:=by
 cases x with
 |c x=>
  have h':VR E w vw x v:=h;obtain⟨h1,h2⟩:=fI h' (by grind[XV.cells]);rw[h2];exact⟨⟨h',trivial⟩,by simp_all⟩
 |agg l=>
  obtain⟨vs,rfl,Nx⟩:=h;exact⟨Nx,l5 Nx hk⟩
 |KK l=>simp[XV.cells]at hn
theorem ic{w:World}{vw:List Bx}{r:Ty}{E:Env}{bx:List Bx}{G:AAO}{d:Nat}{x:XV}{v:Value}{y:r.D}{K5:List Bx}{d':Nat}(h:CD E w vw bx G)(hw:Dx bx vw)(hd:1≤d)
  (hv:XR E w vw x v) (e:pk d r x bx=some (y,K5,d')):1≤d'∧d'≤d∧ ∃E' F,Em E w vw bx G E' K5 F∧Ow w E'.S (d'-1) r v.cells.toList y F:=by
 unfold pk at e;split at e
 ·rename_i l
  obtain⟨vs,rfl,Nx⟩:=hv;exact Qy h hw hd Nx e
 ·rename_i x
  have Qq:VR E w vw x v:=hv;have hk:x.known=true:=by grind[AV.known,Tl]
  rw[(fI Qq hk).2];exact Sq h hw hd Qq e
 simp_all
end Go.Fw
end
section
namespace Go.Fw
def Env.Se(E:Env)(n:Nat)(h:Value):Env:={ E with FG:=fun k=>if k=n then h else E.FG k }
def Env.Ul(E:Env)(n b:Nat):Env:={ E with FH:=fun k=>if k=n then b else E.FH k }
theorem Vo{E E1 E':Env}{w w':World}{vw XS K5:List Bx}{F:AAO}(k:Em E w vw vw [] E1 XS F)(st:∀c,E.S c→E.T c)(hlen:vw.length≤K5.length)
  (gU:∀b B,b<vw.length→K5[b]? =some B→XS[b]? =some B) (qW:∀b,b<vw.length→E'.FH b=E1.FH b) (ZO:∀b,b<vw.length→E'.FG b=E1.FG b) (hT:E'.T=E1.T) (hS:E'.S=E1.S)
  (hw:∀c,c<w.heap.size→c∉F→w'.heap[c]? =w.heap[c]?):Mb E w vw E' w' K5:=by
 have hB:=k.boxes;obtain⟨Fs,⟨h1,h2⟩,h3⟩:=hB;simp only[AF5]at h3;have jK:∀c,E1.T c→w'.heap[c]? =w.heap[c]?:=fun c hc=>hw c (h3.TQ c hc) fun hf=>h3.free c (by simp[hf]) hc
 refine⟨hlen,fun b hb=>by rw[qW b hb,k.le.FH],fun c hc=>by rw[hT];exact k.le.T c hc,fun c hc=>by rw[hS];exact k.le.S c hc,st,fun c hc=>jK c (k.le.T c hc),fun b d r rows hb e=> ?_⟩;have e1:=gU b _ hb e;rcases k.within b _ e1 with e2|e2
 ·cases e2
 ·refine⟨d,rows,e2,fun p hp q ys hg=>⟨hp,⟨ys,hg,rfl⟩,fun h' hh=> ?_⟩⟩
  have hF:Fs[b]? =some (Fs[b]'(by grind)):=AEX _;obtain⟨hd,ho⟩:=h2 b _ _ e1 hF;rw[ZO b hb];rw[←k.le.FG]at hh;refine fK ho (fun c hc=>jK c (h3.st c hc)) (fun c hc=> ?_) hp hg hh;have Sg:c∈Fs.flatten:=AHA.2 ⟨_,AGN hF,hc⟩;exact hw c (h3.lt c (by simp[Sg])) fun hf=>(AFX.1 h3.nodup).2.2 c Sg c hf rfl
structure Grown (w w':World):Prop where
 os:w'.os=w.os
 tape:w'.tape=w.tape
 output:w'.output=w.output
 size:w.heap.size≤w'.heap.size
theorem ND{E E1:Env}{σ:St}{a:Act}{w w':World}{XS:List Bx}{F F':AAO}(h:Rel E σ a w)(k:Em E w σ.bx σ.bx [] E1 XS F){v:Value}{d:Nat}{r:Ty}{rows:List r.D}(hd:1≤d)
  (ho:Ow w' E1.S d (.sl r) [v] rows F') (hF':∀c∈F',c∈F∨w.heap.size≤c) (nd:F'.Nodup) (IV:∀c∈F',c<w'.heap.size) (hw:∀c,c<w.heap.size→c∉F→w'.heap[c]? =w.heap[c]?) (g:Grown w w'):
  let E':=E1.Se XS.length v
  Rel E' { σ with bx:=XS++[.sl d r rows] } a w'∧Lh [] E σ.bx w E' (XS++[.sl d r rows]) w'∧XR E' w' (XS++[.sl d r rows]) (.c (.ref XS.length [])) v:=by
 intro E';have st:=h.bx.st;have hn:=k.len;have keep:Mb E w σ.bx E' w' (XS++[.sl d r rows]):=Vo k st (by simp[hn]) (fun b B hb e=>by
   grind) (fun b _=>rfl) (fun b hb=>by grind[Env.Se]) rfl rfl hw
 have il:Mb E1 w σ.bx E' w' (XS++[.sl d r rows]):=by
  have k':Em E1 w σ.bx σ.bx [] E1 XS F:=⟨Le.refl _,k.len,k.within,k.boxes⟩;exact Vo k' k.boxes.st (by simp[hn]) (fun b B hb e=>by
   grind) (fun b _=>rfl) (fun b hb=>by grind[Env.Se]) rfl rfl hw
 obtain⟨Fs,⟨h1,h2⟩,h3⟩:=k.boxes;simp only[AF5]at h3;have jK:∀c,E1.T c→w'.heap[c]? =w.heap[c]?:=fun c hc=>hw c (h3.TQ c hc) fun hf=>h3.free c (by simp[hf]) hc
 have hF0:∀c∈Fs.flatten,w'.heap[c]? =w.heap[c]?:=fun c hc=>hw c (h3.lt c (by simp[hc])) fun hf=>(AFX.1 h3.nodup).2.2 c hc c hf rfl
 refine⟨⟨h.JQ,h.tm.imp fun _ _ hx=>KB keep hx,?_⟩,?_,?_⟩
 ·refine⟨Fs++[F'],⟨by simp[h1],fun n B G hB hG=> ?_⟩,?_⟩
  ·by_cases jM:n<XS.length
   ·rw[AFy jM]at hB
    rw[AFy (by omega)]at hG;have:=h2 n B G hB hG;have hGw:∀c∈G,w'.heap[c]? =w.heap[c]?:=fun c hc=>hF0 c (AHA.2 ⟨G,AGN hG,hc⟩)
    cases B with
    |mem cs=>
     obtain⟨rfl,arr,ty,fr,a1,a2,a3⟩:=this;exact⟨rfl,arr,ty,fr,(hGw (E1.FH n) (by simp)).trans a1,a2,a3.imp fun _ _ hv=>EN il hv⟩
    |sl d0 r0 MJ=>
     refine⟨this.1,?_⟩;have e0:E'.FG n=E1.FG n:=by grind[Env.Se]
     rw[e0];exact DK (fun _ hc=>hc) (fun c hc=>jK c (h3.st c hc)) hGw this.2
    |dead=>exact this
   ·have rm:=(AEy.1 hB).1
    simp at rm;obtain rfl:n=XS.length:=by omega
    rw[AF_ (by omega)]at hB hG;simp[h1]at hB hG;subst hB hG;refine⟨hd,?_⟩;grind[Env.Se]
  ·simp only[AHk,AHt,AIH,AF5]
   have nd0:=AFX.1 h3.nodup;refine⟨AFX.2 ⟨nd0.1,nd,fun x hx y hy e=> ?_⟩,fun c hc ht=> ?_,fun c hc=> ?_,h3.st,fun c hc=>AHG (h3.TQ c hc) g.size⟩
   ·grind
   ·rcases AGf.1 hc with hc|hc
    ·exact h3.free c (by simp[hc]) ht
    ·rcases hF' c hc with h|h
     ·exact h3.free c (by simp[h]) ht
     ·have:=h3.TQ c ht;omega
   ·rcases AGf.1 hc with hc|hc
    ·exact AHG (h3.lt c (by simp[hc])) g.size
    simp_all
 ·refine⟨⟨k.le.T,k.le.S,k.le.sx,k.le.lM,fun c hc=>jK c (k.le.T c hc),g.os,g.tape,g.output,g.size⟩,by simp[hn],fun b hb=>⟨by show E1.FH b=_;rw[k.le.FH],?_⟩,fun b hb=> ?_,fun n B B' _ hB NJ kF=> ?_⟩
  ·have:E'.FG b=E1.FG b:=by grind[Env.Se]
   rw[this,k.le.FG]
  ·have zE:=(AEy.1 hb).1
   rw[AFy (by omega)];obtain⟨B,hB⟩:∃B,XS[b]? =some B:=⟨_,AEX (by omega)⟩;rcases k.within b B hB with e|e
   all_goals simp_all
  ·have jM:=(AEy.1 hB).1
   rw[AFy (by omega)]at NJ;rcases k.within n B' NJ with e|e
   ·simp_all
   rw[hB]at e;cases e;refine⟨OI.refl kF,fun c hc=> ?_⟩;have hF:Fs[n]? =some (Fs[n]'(by omega)):=AEX _;have hR:=h2 n B _ NJ hF;have XM:jJ E1 w n B c:=by
    cases B with
    |mem cs=>simp only[jJ]at hc⊢;rw[k.le.FH];omega
    |sl d r rows=>simp only[jJ]at hc⊢;rw[k.le.FG];omega
    |dead=>exact hc
   rcases Ua hR XM with hs|hs
   ·exact jK c (h3.st c hs)
   grind[List.mem_flatten,List.mem_of_getElem?]
 ·have e0:E'.FG XS.length=v:=by simp[E',Env.Se]
  refine⟨?_,?_⟩
  ·have:=P4 ho
   simp only[Rd]at this;obtain⟨_,_,e,_⟩:=this;simp only[AGv,AHM]at e;rw[e];rfl
  ·have:(XS++[Bx.sl d r rows])[XS.length]? =some (.sl d r rows):=by simp
   rw[this];exact⟨by simp[CK],⟨_,rfl⟩,by rw[e0,CI]⟩
theorem ay{E:Env}{σ:St}{a:Act}{w:World}(h:Rel E σ a w){cs:List AV}{arr:Array Value}(ty:TypeId)(hv:XO E w σ.bx cs arr.toList):
  let E':=E.Ul σ.bx.length w.heap.size
  let w':=w.alloc (.cells arr ty)
  Rel E' (σ.new (.mem cs)) a w'∧Lh [] E σ.bx w E' (σ.new (.mem cs)).bx w'∧XR E' w' (σ.new (.mem cs)).bx (.c (.Fg σ.bx.length 0)) (.pointer (some ⟨w.heap.size,0,none⟩)):=by
 intro E' w';have st:=h.bx.st;have hw:∀c,c<w.heap.size→c∉([]:AAO)→w'.heap[c]? =w.heap[c]?:=fun c hc _=>by
  show(w.heap.push (.cells arr ty))[c]? =_
  grind
 have hB0:=h.bx;have keep:Mb E w σ.bx E' w' (σ.bx++[.mem cs]):=Vo (Em.refl hB0) st (by simp) (fun b B hb e=>by
   grind) (fun b hb=>by grind[Env.Ul]) (fun b _=>rfl) rfl rfl hw
 obtain⟨Fs,⟨h1,h2⟩,h3⟩:=h.bx;simp only[AF5]at h3;have new:w'.heap[w.heap.size]? =some (.cells arr ty):=by
  show(w.heap.push (.cells arr ty))[w.heap.size]? =_
  simp
 refine⟨⟨h.JQ,h.tm.imp fun _ _ hx=>KB keep hx,?_⟩,?_,?_⟩
 ·refine⟨Fs++[[w.heap.size]],⟨by simp[St.new,h1],fun n B G hB hG=> ?_⟩,?_⟩
  ·simp only[St.new]at hB
   by_cases jM:n<σ.bx.length
   ·rw[AFy jM]at hB
    rw[AFy (by omega)]at hG;have:=h2 n B G hB hG;have hGw:∀c∈G,w'.heap[c]? =w.heap[c]?:=fun c hc=>hw c (h3.lt c (by simp;grind)) (by simp)
    have eb:E'.FH n=E.FH n:=by grind[Env.Ul]
    cases B with
    |mem cs0=>
     obtain⟨rfl,arr0,ty0,fr,a1,a2,a3⟩:=this;refine⟨by rw[eb],arr0,ty0,fr,?_,a2,a3.imp fun _ _ hv=>EN keep hv⟩;simp_all
    |sl d0 r0 MJ=>exact⟨this.1,DK (fun _ hc=>hc) (fun c hc=>hw c (h3.TQ c (st c hc)) (by simp)) hGw this.2⟩
    |dead=>exact this
   ·have rm:=(AEy.1 hB).1
    simp at rm;obtain rfl:n=σ.bx.length:=by omega
    rw[AF_ (by omega)]at hB hG;simp[h1]at hB hG;subst hB hG;have eb:E'.FH σ.bx.length=w.heap.size:=by simp[E',Env.Ul]
    refine⟨by rw[eb],arr,ty,(0,0),by simp_all,fun i _ h=>by omega,hv.imp fun _ _ hv=>EN keep hv⟩
  ·simp only[AHk,AHt,AIH,AF5]
   refine⟨AFX.2 ⟨h3.nodup,by simp,fun x hx y hy e=> ?_⟩,fun c hc ht=> ?_,fun c hc=> ?_,h3.st,fun c hc=> ?_⟩
   ·subst e
    simp at hy;have:=h3.lt x hx;omega
   ·rcases AGf.1 hc with hc|hc
    ·exact h3.free c hc ht
    ·simp at hc;have:=h3.TQ c ht;omega
   ·rcases AGf.1 hc with hc|hc
    ·have:=h3.lt c hc;grind
    grind
   ·have:=h3.TQ c hc;grind
 ·refine⟨⟨fun _ h=>h,fun _ h=>h,fun _ h=> .inl h,fun _ h=> .inl h,fun c hc=>hw c (h3.TQ c hc) (by simp),rfl,rfl,rfl,by simp[w']⟩,by simp[St.new],fun b hb=>⟨?_,rfl⟩,fun b hb=> ?_,fun n B B' _ hB NJ kF=> ?_⟩
  ·grind[Env.Ul]
  ·grind[List.getElem?_eq_some_iff,St.new,List.getElem?_append_left]
  ·have jM:=(AEy.1 hB).1
   simp only[St.new]at NJ;rw[AFy jM,hB]at NJ;cases NJ;refine⟨OI.refl kF,fun c hc=> ?_⟩;have hF:Fs[n]? =some (Fs[n]'(by omega)):=AEX _;rcases Ua (h2 n B _ hB hF) hc with hs|hs
   ·exact hw c (h3.TQ c (st c hs)) (by simp)
   ·exact hw c (h3.lt c (AHA.2 ⟨_,AGN hF,hs⟩)) (by simp)
 ·refine⟨by simp[St.new],?_⟩
  simp[E',Env.Ul]
end Go.Fw
end
section
namespace Go.Fw
theorem Ed:∀r:Ty,(DZ r).length=r.n
 | .cons c r=>by simp[DZ,Ty.n,Ed r]
 | .unit=>rfl
 | .int _=>rfl
 | .bool=>rfl
 | .str=>rfl
 | .sl _=>rfl
theorem RP{E:Env}{w:World}{vw:List Bx}(t:Ty):VR E w vw (j7 t) (zv t):=by
 cases t<;>first
  |exact VR.int _ _
  |exact VR.bool _
  |exact VR.str _
  |rfl
  |trivial
theorem Qh{E:Env}{w:World}{vw:List Bx}:∀r:Ty,XO E w vw (SH r) (DZ r)
 | .cons c r=>⟨RP c,Qh r⟩
 | .unit=>trivial
 | .int k=>⟨RP (.int k),trivial⟩
 | .bool=>⟨RP .bool,trivial⟩
 | .str=>⟨RP .str,trivial⟩
 | .sl r=>⟨RP (.sl r),trivial⟩
theorem Uh{w:World}{S:Nat→Prop}{d:Nat}:∀{r:Ty},r.fg=true→Ow w S d r (DZ r) r.z []
 | .cons c r,h=>by
  simp only[Ty.fg,AE1]at h;simp only[Ow,DZ];refine⟨_,_,[],[],rfl,rfl,?_,Uh h.2⟩;cases c with
  |sl q=>exact aV
  |int k=>simp[Ow,zv,Ty.z]
  |bool=>simp[Ow,zv,Ty.z]
  |str=>simp[Ow,zv,Ty.z]
  |unit=>simp[Ty.cell]at h
  |cons _ _=>simp[Ty.cell]at h
 | .unit,_=>by simp[Ow,DZ]
 | .int k,_=>by simp[Ow,DZ,zv,Ty.z]
 | .bool,_=>by simp[Ow,DZ,zv,Ty.z]
 | .str,_=>by simp[Ow,DZ,zv,Ty.z]
 | .sl q,_=>aV
theorem Qs{n:Nat}:∀{css:List (List Value)} {ex:List Value} {i j:Nat} {cs:List Value},(∀c∈css,c.length=n)→css[i]? =some cs→j<n→(css.flatten++ex)[i*n+j]? =cs[j]?
 |[],_,_,_,_,_,h,_=>by simp at h
 |c::css,ex,0,j,cs,hl,h,hj=>by
  grind
 |c::css,ex,i+1,j,cs,hl,h,hj=>by
  have hc:=hl c (by simp);have ih:=Qs (css:=css) (ex:=ex) (i:=i) (j:=j) (cs:=cs) (fun c' XM=>hl c' (AIw _ XM)) (by simp_all) hj;simp only[AHt,AGl];rw[AF_ (by grind),←ih];congr 1;grind
theorem ZR{w:World}{b:Nat}{arr:Array Value}{ty:TypeId}{fr:ACN}(hb:w.heap[b]? =some (.cells arr ty fr)){n:Nat}{css:List (List Value)}{ex:List Value}(ha:arr.toList=css.flatten++ex)
  (hl:∀c∈css,c.length=n) {i:Nat} {cs:List Value} (h:css[i]? =some cs):A_ w b (i*n) cs:=by
 intro j v hj;have hjn:j<n:=by
  grind
 simp only[World.cell?,hb,AHm,AE6,AGn];rw[←Array.getElem?_toList,ha,Qs hl h hjn,hj]
theorem Tv{w:World}{S:Nat→Prop}{d b cap:Nat}{r:Ty}{rows:List r.D}{arr:Array Value}{ty:TypeId}{fr:ACN}(hb:w.heap[b]? =some (.cells arr ty fr)){css:List (List Value)}{ex:List Value}
  (ha:arr.toList=css.flatten++ex) (hc:css.length=rows.length) (kQ:rows.length≤cap) (KS:cap*r.n≤arr.size) (hu:ga fr (arr.size+mk r)) {Fs:List AAO} (hF:Fs.length=rows.length)
  (S3:∀(i:Nat) cs y G,css[i]? =some cs→rows[i]? =some y→Fs[i]? =some G→Ow w S d r cs y G):
  Ow w S (d+1) (.sl r) [.slice (some ⟨b,0,none⟩) rows.length cap] rows (b::Fs.flatten):=by
 have hl:∀c∈css,c.length=r.n:=by
  intro c XM;obtain⟨i,hi,rfl⟩:=AHD XM;exact PJ (S3 i _ _ _ (AEX hi) (AEX (by omega)) (AEX (by omega)))
 simp only[Ow];refine⟨_,cap,rfl,kQ,.inr ⟨b,0,arr,ty,fr,Fs,rfl,hb,by omega,hu,rfl,hF,fun i y G hy hG=> ?_⟩⟩;have hi:i<css.length:=by
  grind
 refine⟨css[i],hl _ (AFj hi),?_,S3 i _ y G (AEX hi) hy hG⟩;rw[AHp];grind[ZR,List.getElem?_eq_getElem]
theorem O_(n:Nat):ga (0,0) n:=fun i _ h=>by omega
theorem Fy{w:World}{o:Obj}{c:Nat}(h:c<w.heap.size):(w.heap.push o)[c]? =w.heap[c]?:=by
 grind
section
variable{Y:Type} {P:Program} {T:GH} (hT:DO P T) {o:Oper} {E:Env} {σ:St} {a:Act} {w:World} {k:K Y} {y:Y}
theorem pH(h:Rel E σ a w){t:TypeId}{x:Operand}(ho:o.op= .box t x)(hk:(σ.ev x).cells.all AV.known=true)(hn:(σ.ev x).cells≠[])(e:k (.c (.Fg σ.bx.length 0)) (σ.new (.mem (σ.ev x).cells))=some y):
  Hr P o E σ a w k y:=by
 obtain⟨h1,h2⟩:=bR (h.ev x) hk hn;obtain⟨r1,r2,r3⟩:=ay h t h1;refine⟨_,_,_,_,_,.inl ?_,r1,r3,r2.any,rfl,e⟩;simp only[execOp,ho,Instr.box,newVar,newRow,Sem.run_bind,run_newObj,Result.andThen_ok,Sem.run_pure];rfl
include hT
theorem row_zero{t:Nat}{r:Ty}(e:T.Wh t=some r):∃i z,P.info? t=some i∧i.zero=some z∧z.cells.toList=DZ r∧r.fg=true:=by
 unfold GH.Wh at e;split at e
 ·rename_i ti N3
  obtain⟨i,h1,_,_,h2⟩:=(hT t ti N3).info;simp_all
 simp_all
theorem kU(h:Rel E σ a w){t:TypeId}(ho:o.op= .alloc t){r:Ty}(hr:T.Wh t=some r)(e:k (.c (.Fg σ.bx.length 0)) (σ.new (.mem (SH r)))=some y):Hr P o E σ a w k y:=by
 obtain⟨i,z,h1,h2,h3,_⟩:=row_zero hT hr;obtain⟨r1,r2,r3⟩:=ay (arr:=z.cells) h t (by rw[h3];exact Qh r);refine⟨_,_,_,_,_,.inl ?_,r1,r3,r2.any,rfl,e⟩;simp only[execOp,ho,Instr.alloc,zeroValue,typeInfo,newVar,newRow,Sem.run_bind,run_program,Result.andThen_ok,h1,h2,run_newObj,Sem.run_pure];rfl
end
end Go.Fw
end
section
namespace Go.Fw
def Du(arr:Array Value):Nat→List Value→Array Value
 |_,[]=>arr
 |o,c::l=>Du (arr.setIfInBounds o c) (o+1) l
theorem D5:∀(l:List Value) (o:Nat) (arr:Array Value),(Du arr o l).size=arr.size
 |[],_,_=>rfl
 |c::l,o,arr=>by simp[Du,D5 l]
theorem bV(off:Nat):∀(l:List Value) (k:Nat) (arr:Array Value),(l.zipIdx k).foldl (fun cs (q:Value×Nat)=>cs.setIfInBounds (off+q.2) q.1) arr=Du arr (off+k) l
 |[],_,_=>rfl
 |c::l,k,arr=>by
  simp only[List.zipIdx_cons,List.foldl_cons,Du];rw[bV off l (k+1)];rfl
theorem PS{E:Env}{w:World}{vw:List Bx}:∀{xs:List AV} {vs:List Value} {cs T5:List AV} {arr:Array Value} {o:Nat},XO E w vw cs arr.toList→XO E w vw xs vs→PG cs o xs=some T5→
  XO E w vw T5 (Du arr o vs).toList∧o+xs.length≤cs.length∨(xs=[]∧T5=cs)
 |[],[],cs,T5,arr,o,h,_,e=>by simp only[PG,AEY]at e;simp_all
 |x::xs,v::vs,cs,T5,arr,o,h,hx,e=>by
  simp only[PG]at e;split at e
  case isFalse=>cases e
  rename_i ho;have h1:XO E w vw (cs.set o x) (arr.setIfInBounds o v).toList:=by
   rw[Array.toList_setIfInBounds];exact Bh.set h hx.1
  rcases PS h1 hx.2 e with⟨h2,h3⟩|⟨rfl,rfl⟩
  ·refine .inl ⟨h2,?_⟩
   grind
  ·cases vs with
   |nil=>exact .inl ⟨h1,by grind⟩
   |cons _ _=>exact hx.2.elim
 |[],_::_,_,_,_,_,_,hx,_=>hx.elim
 |_::_,[],_,_,_,_,_,hx,_=>hx.elim
section
variable{Y:Type} {P:Program} {T:GH} (hT:DO P T) {o:Oper} {E:Env} {σ:St} {a:Act} {w:World} {k:K Y} {y:Y}
def jV(E:Env)(w:World)(vw:List Bx)(l:List (Nat×XV))(m:List (Nat×Value)):Prop:=Bh (fun x v=>x.1=v.1∧XR E w vw x.2 v.2) l m
theorem aW(h:Rel E σ a w)(ps:Array (Nat×Operand)):jV E w σ.bx (ps.toList.map fun q=>(q.1,σ.ev q.2)) (ps.map fun(i,x)=>(i,a.eval x)).toList:=by
 rw[Array.toList_map]
 generalize ps.toList=l
 induction l with
 |nil=>trivial
 |cons q l ih=>exact⟨⟨rfl,h.ev q.2⟩,ih⟩
theorem dV{place:Nat→Option ACN}{i off size:Nat}(hp:place i=some (off,size)){cells:Array Value}{v:Value}{rest:List (Nat×Value)}(h1:v.cells.size=size)(h2:off+v.cells.size≤cells.size):
  Instr.fill place cells ((i,v)::rest)=Instr.fill place (Du cells off v.cells.toList) rest:=by
 have e:v.cells.zipIdx.foldl (fun cs (q:Value×Nat)=>cs.setIfInBounds (off+q.2) q.1) cells=Du cells off v.cells.toList:=by
  rw[←Array.foldl_toList];have:(v.cells.zipIdx).toList=v.cells.toList.zipIdx:=by simp
  rw[this];exact bV off v.cells.toList 0 cells
 conv=>lhs;unfold Instr.fill
 grind
theorem Z6{α β:Type}{f:α→Option β}{g:α→β}:∀{l:List α},(∀x∈l,f x=some (g x))→l.mapM f=some (l.map g)
 |[],_=>rfl
 |x::l,h=>by
  simp only[AI6,h x (by simp),Z6 (l:=l) (g:=g) (fun y hy=>h y (by simp[hy]))];rfl
include hT
theorem Sm{fs:List ACN}{vw:List Bx}:∀{parts:List (Nat×XV)} {vals:List (Nat×Value)} {cs T5:List AV} {arr:Array Value},jV E w vw parts vals→XO E w vw cs arr.toList→VN T fs cs parts=some T5→
  ∃G3:Array Value,Instr.fill (fun i=>(fs[i]?).bind fun q=>((P.info? q.2).map fun i=>(q.1,i.size))) arr vals=some G3∧XO E w vw T5 G3.toList
 |[],[],cs,T5,arr,_,h,e=>by
  simp only[VN,AEY]at e;subst e;exact⟨arr,rfl,h⟩
 |(i,x)::ps,(j,v)::vs,cs,T5,arr,hp,h,e=>by
  obtain⟨⟨rq,hx⟩,hp⟩:=hp;simp only at rq hx;subst rq;simp only[VN]at e;split at e
  case h_2=>cases e
  rename_i off u hf;split at e
  case h_2=>cases e
  rename_i ti N3;split at e
  case isFalse=>cases e
  rename_i hc;obtain⟨c1,c2,c3⟩:=hc;simp only[AEz]at e;obtain⟨cs1,e1,e2⟩:=e;have UZ:x.cells≠[]:=by grind
  obtain⟨x1,x2⟩:=bR hx c3 UZ;rcases PS h x1 e1 with⟨s1,s2⟩|⟨s1,_⟩
  ·have KS:v.cells.size=ti.size:=by
    have:=x1.len;simp_all
   have hlen:=h.len;obtain⟨G3,f1,f2⟩:=Sm hp s1 e2;refine⟨G3,?_,f2⟩;have AFi:(fun i=>(fs[i]?).bind fun q=>((P.info? q.2).map fun i=>(q.1,i.size))) i=some (off,ti.size):=by
    have:=DO.size hT N3;simp_all
   grind[dV]
  simp_all
 |[],_::_,_,_,_,hp,_,_=>hp.elim
 |_::_,[],_,_,_,hp,_,_=>hp.elim
theorem jk(h:Rel E σ a w){t:TypeId}{ps:Array (Nat×Operand)}(ho:o.op= .build t ps){s b:Nat}{fs:List ACN}{rw:Option Ty}(N3:T.get t=some ⟨s,b,.st fs,rw⟩){r:Ty}(hr:T.Wh t=some r)
  {cs:List AV} (hb:VN T fs (SH r) (ps.toList.map fun q=>(q.1,σ.ev q.2))=some cs) (e:k (.agg cs) σ=some y):Hr P o E σ a w k y:=by
 obtain⟨i,z,h1,h2,h3,_⟩:=row_zero hT hr;obtain⟨fields,hu,zN,KS⟩:=sX hT N3;obtain⟨G3,f1,f2⟩:=Sm hT (aW h ps) (arr:=z.cells) (by grind[Qh]) hb;refine Hr.same h (v:= .agg G3) (x:= .agg cs) ?_ ⟨G3,rfl,f2⟩ e
 have hb:P.built t (ps.map fun(i,x)=>(i,a.eval x)).toList=some G3:=by
  unfold Program.built;simp only[h1,hu,h2];have hm:fields.toList.mapM (fun f=>(P.info? f.type).map fun i=>(f.offset,i.size))=some (fields.toList.map fun f=>(f.offset,((P.info? f.type).map (·.size)).getD 0)):=by
   grind[Z6]
  simp only[hm];rw[←f1];congr 1;funext n;subst zN;simp only[List.getElem?_toArray,AG5];cases hn:fields.toList[n]? with
  |none=>simp
  |some f=>
   obtain⟨i',JU,_⟩:=KS f (AGN hn);simp[JU]
 grind[run_build,execOp,Sem.run_bind,Result.andThen_ok,Sem.run_pure]
end
end Go.Fw
end
section
namespace Go.Fw
theorem wrap_small{n:Int}(h0:0≤n)(h1:n≤(IQ:Int)):IntKind.i64.wrap n=n:=by
 simp only[IQ]at h1;unfold IntKind.wrap;simp only[IntKind.bits,IntKind.signed];grind
theorem El{m:Nat}{zl:List Value}:((List.replicate m zl).flatten).length=m*zl.length:=by
 simp_all
theorem JC{zl:List Value}:∀{m i:Nat},i<m*zl.length→((List.replicate m zl).flatten)[i]? =zl[i%zl.length]?
 |0,i,h=>by omega
 |m+1,i,h=>by
  simp only[AIB,AHt];by_cases hi:i<zl.length
  ·rw[AFy hi,Nat.mod_eq_of_lt hi]
  ·have JU:zl.length≤i:=by omega
   rw[AF_ JU,JC (by grind),←Nat.mod_eq_sub_mod JU]
theorem O0{zero:Array Value}{zl:List Value}(hz:zero.toList=zl)(m:Nat)(h0:zl≠[]):((Array.range (m*zl.length)).map (fun i=>zero[i%zero.size]!)).toList=(List.replicate m zl).flatten:=by
 have hs:zero.size=zl.length:=by grind
 have AAY:0<zl.length:=List.length_pos_iff.2 h0;apply AH_;intro i;by_cases hi:i<m*zl.length
 ·grind[JC,Nat.mod_lt,Array.toList_map,Array.toList_range,List.getElem?_range,List.getElem?_eq_getElem]
 simp_all
section
variable{Y:Type} {P:Program} {T:GH} (hT:DO P T) {o:Oper} {E:Env} {σ:St} {a:Act} {w:World} {k:K Y} {y:Y}
include hT
theorem PD{e:Nat}{ti:TI}{r:Ty}(he:T.get e=some ti)(hr:ti.row=some r):∃i z,P.info? e=some i∧i.size=ti.size∧i.bytes=ti.bytes∧i.zero=some z∧z.cells.toList=DZ r∧r.fg=true:=by
 obtain⟨i,h1,h2,h3,h4⟩:=(hT e ti he).info;simp_all
theorem mN(h:Rel E σ a w){t:TypeId}{l c:Operand}(ho:o.op= .makeSlice t l c)(e:du T t σ (σ.ev l) (σ.ev c) k=some y):Hr P o E σ a w k y:=by
 unfold du at e;split at e
 case h_2=>cases e
 rename_i el n m hd hl hc;split at e
 case h_2=>cases e
 rename_i r hr;split at e
 case isFalse=>cases e
 rename_i RJ;split at e
 case isFalse=>cases e
 rename_i hb;obtain⟨b0,b1,b2⟩:=hb;obtain⟨el',ti,hu,N3,hs,pe,hrow⟩:=G6 hT RJ;obtain⟨i,z,i1,i2,i3,i4,i5,hg⟩:=PD hT N3 hrow;obtain⟨κ1,e1⟩:=Fp hl (h.ev l);obtain⟨κ2,e2⟩:=Fp hc (h.ev c);have w1:=wrap_small b0 (by omega);have w2:=wrap_small (n:=m) (by omega) b2
 let arr:Array Value:=(Array.range (m.toNat*r.n)).map (fun j=>(if m.toNat*r.n=0 then #[]else z.cells)[j%(if m.toNat*r.n=0 then(#[]:Array Value)else z.cells).size]!)
 have TK:arr.toList=(List.replicate n.toNat (DZ r)).flatten++(List.replicate (m.toNat-n.toNat) (DZ r)).flatten:=by
  have hz:=Ed r;have split:(List.replicate n.toNat (DZ r)).flatten++(List.replicate (m.toNat-n.toNat) (DZ r)).flatten=(List.replicate m.toNat (DZ r)).flatten:=by
   grind[List.flatten_append,List.replicate_append_replicate]
  rw[split];by_cases h0:m.toNat*r.n=0
  ·grind[List.length_eq_zero_iff,El]
  ·have UZ:DZ r≠[]:=by
    grind
   have:=O0 i5 m.toNat UZ;grind
 let w':=w.alloc (.cells arr el')
 have new:w'.heap[w.heap.size]? =some (.cells arr el'):=by
  show(w.heap.push (.cells arr el'))[w.heap.size]? =_
  simp
 have vx:arr.size=m.toNat*r.n:=by simp[arr]
 have how:Ow w' E.S (8+1) (.sl r) [.slice (some ⟨w.heap.size,0,none⟩) (List.replicate n.toNat r.z).length m.toNat] (List.replicate n.toNat r.z) (w.heap.size::(List.replicate n.toNat ([]:AAO)).flatten):=by
  refine Tv new TK (by simp) (by grind) (by omega) (O_ _) (by simp) fun i cs y G h1 h2 h3=> ?_
  simp only[AIk]at h1 h2 h3;split at h1
  ·rename_i hi
   rw[AEv hi]at h2 h3;grind[Uh]
  simp_all
 have hF:(List.replicate n.toNat ([]:AAO)).flatten=[]:=by simp
 rw[hF]at how;simp only[AHF]at how;obtain⟨r1,r2,r3⟩:=ND h (Em.refl h.bx) (w':=w') (d:=9) (by omega) how (by simp) (by simp) (by simp[w']) (fun c hc _=>Fy hc) ⟨rfl,rfl,rfl,by simp[w']⟩;refine⟨_,_,_,_,_,.inl ?_,r1,r3,r2.any,rfl,e⟩;have AGR:(i.bytes:Int)*m≤2^48:=by
  have h1:(i.bytes:Int)≤512:=by omega
  have h2:(i.bytes:Int)*m≤512*m:=Int.mul_le_mul_of_nonneg_right h1 (by omega);grind[IQ]
 simp only[execOp,ho,Instr.makeSlice,e1,e2,Sem.run_bind,A9 hu,Result.andThen_ok,asInt,asIntOf,Sem.run_pure,typeInfo,run_program,i1,w1,w2];rw[AE4 (by grind)];by_cases h0:m.toNat*r.n=0
 ·have e3:arr=(Array.range (m.toNat*r.n)).map (fun j=>(#[]:Array Value)[j%(#[]:Array Value).size]!):=by simp_all
  simp only[Sem.run_bind,run_askRoom,Result.andThen_ok,sizeOf,typeInfo,run_program,i1,Sem.run_pure,i2,hs,h0,AHL,newRow,run_newObj];simp only[w',e3,h0];rfl
 ·have e3:arr=(Array.range (m.toNat*r.n)).map (fun j=>z.cells[j%z.cells.size]!):=by grind
  simp only[Sem.run_bind,run_askRoom,Result.andThen_ok,sizeOf,typeInfo,run_program,i1,Sem.run_pure,i2,hs,h0,AGn,newRow,run_newObj,zeroValue,i4];simp only[w',e3];rfl
end
end Go.Fw
end
section
namespace Go.Fw
theorem W0{w:World}{B S:Nat→Prop}{d:Nat}:∀{r:Ty} {cs:List Value} {x:r.D},r.flat=true→Rd w B r cs x→Ow w S d r cs x []
 | .cons c r,cs,x,h,hr=>by
  simp only[Ty.flat,AE1]at h;simp only[Rd]at hr;obtain⟨v,l,rfl,h1,h2⟩:=hr;simp only[Ow];exact⟨v,l,[],[],rfl,rfl,W0 h.1 h1,W0 h.2 h2⟩
 | .unit,_,_,_,hr=>by grind[Rd,Ow]
 | .int k,_,_,_,hr=>by grind[Rd,Ow]
 | .bool,_,_,_,hr=>by grind[Rd,Ow]
 | .str,_,_,_,hr=>by grind[Rd,Ow]
 | .sl q,_,_,h,_=>by simp[Ty.flat]at h
theorem IK{P:Program}{w:World}{b o:Nat}{cs:List Value}(h:A_ w b o cs):(loadCells ⟨b,o,none⟩ cs.length).run P w= .ok cs.toArray w:=
 run_loadCells_list (P:=P) w ⟨b,o,none⟩ cs fun j v hv=>by rw[Addr.add_eq];exact h j v hv
theorem PU{l:List Value}:(l.map fun v=>[v]).flatten=l:=by
 induction l with
 |nil=>rfl
 |cons a l ih=>simp[ih]
theorem bX{w:World}{B:Nat→Prop}{r:Ty}{b o:Nat}{ys:List r.D}(h:∀(i:Nat) (y:r.D),ys[i]? =some y→ ∃cs,cs.length=r.n∧A_ w b (o+i*r.n) cs∧Rd w B r cs y):
  ∃css:List (List Value),css.length=ys.length∧(∀c∈css,c.length=r.n)∧A_ w b o css.flatten∧ ∀(i:Nat) cs y,css[i]? =some cs→ys[i]? =some y→Rd w B r cs y:=by
 induction ys generalizing o with
 |nil=>exact⟨[],rfl,by simp,fun _ _ h=>by simp at h,fun i cs y h=>by simp at h⟩
 |cons y ys ih=>
  obtain⟨cs,c1,c2,c3⟩:=h 0 y rfl;obtain⟨css,d1,d2,d3,d4⟩:=ih (o:=o+r.n) (fun i z hz=>by
   obtain⟨cs,e1,e2,e3⟩:=h (i+1) z (by simp_all);grind)
  refine⟨cs::css,by simp[d1],by simp_all,?_,?_⟩
  ·intro j v hj
   simp only[AHt]at hj;by_cases lr:j<cs.length
   ·rw[AFy lr]at hj
    have:=c2 j v hj;simp_all
   ·rw[AF_ (by omega)]at hj
    have:=d3 _ v hj;grind
  grind
theorem A_.append{w:World}{b o:Nat}{l m:List Value}(h:A_ w b o l)(k:A_ w b (o+l.length) m):A_ w b o (l++m):=by
 intro j v hj;by_cases lr:j<l.length
 ·rw[AFy lr]at hj
  exact h j v hj
 ·rw[AF_ (by omega)]at hj
  have:=k _ v hj;grind
section
variable{Y:Type} {P:Program} {T:GH} (hT:DO P T) {o:Oper} {E:Env} {σ:St} {a:Act} {w:World} {k:K Y} {y:Y}
theorem F7(hT:DO P T){t:Nat}{d:TD}(e:(T.get t).map TI.desc=some d):Ve P t d:=by
 simp only[AEx]at e;obtain⟨ti,h1,rfl⟩:=e;exact(hT t ti h1).pA
theorem a6{src dst e:Nat}(hs:P.underlying src=some (.slice e))(he:P.underlying e=some (.int .u8))(hd:P.underlying dst=some .string){x:Value}{l:AAG}{B:Nat→Prop}
  (h:Rd w B (.sl (.int .u8)) [x] l):(convert src dst x).run P w= .ok (.string ⟨(l.map fun n:Int=>UInt8.ofNat n.toNat).toArray⟩) w:=by
 simp only[Rd]at h;obtain⟨a,cap,hx,hle,h⟩:=h;simp only[AGv,AHM]at hx;subst hx;rcases h with h|⟨b,o,rfl,_,h⟩
 ·obtain rfl:=AGw h
  cases a with
  |none=>exact run_convert_bytes_nil w src e hs he _ _ dst hd
  |some a=>
   rw[run_convert_bytes_string w src dst e _ _ cap hs he hd];rfl
 ·refine run_convert_bytes_arg w src e hs he b o _ cap l rfl (fun i hi=> ?_) dst hd
  obtain⟨cs,c1,c2,c3⟩:=h i _ (AEX hi);subst c3;have:=c2 0 _ rfl;grind
include hT in
theorem mB(h:Rel E σ a w){src dst:Nat}{x:Operand}(ho:o.op= .convert src dst x)(e:eO T src dst σ (σ.ev x) k=some y):Hr P o E σ a w k y:=by
 have hx:=h.ev x;unfold eO at e;split at e
 ·rename_i κ0 κ j n hs hd hv
  have h1:=F7 hT hs;have h2:=F7 hT hd;rw[hv]at hx;have Qq:=SK (E:=E) (w:=w) (vw:=σ.bx) hx;refine Hr.same h (v:= .int κ (κ.wrap n)) (x:= .c (.v (.int κ) (κ.wrap n))) ?_ (VR.int (E:=E) (vw:=σ.bx) _ _) e
  simp only[Ve]at h1 h2;simp only[execOp,ho,Qq,convert,Sem.run_bind,A9 h1,A9 h2,Result.andThen_ok,Conv.intToInt,Sem.run_pure]
 ·rename_i s hs hd hv
  have h1:=F7 hT hs;have h2:=F7 hT hd;rw[hv]at hx;have Qq:=Pp (E:=E) (w:=w) (vw:=σ.bx) hx;refine Hr.same h (v:= .string ⟨s.toArray⟩) (x:= .c (.v .str s)) ?_ (VR.str (E:=E) (vw:=σ.bx) _) e
  simp only[Ve]at h1 h2;simp only[execOp,ho,Qq,convert,Sem.run_bind,A9 h1,A9 h2,Result.andThen_ok,Sem.run_pure]
 ·rename_i el s hs hd hv
  have h1:=F7 hT hs;have h2:=F7 hT hd;rw[hv]at hx;have Qq:=Pp (E:=E) (w:=w) (vw:=σ.bx) hx;split at e
  case h_2=>cases e
  rename_i RJ;have h3:=F7 hT RJ;split at e
  case isFalse=>cases e
  rename_i QD;simp only[Ve]at h1 h2 h3
  let S0:ByteArray:=⟨s.toArray⟩
  have KS:S0.size=s.length:=by simp[S0,ByteArray.size]
  have X7:=Lib.run_convert_string_bytes (P:=P) w src dst el S0 h1 h2 h3;have kQ:s.length≤grownCap w S0.size 0 el:=by rw[KS];exact grownCap_ge _ _ _ _
  have new:=Lib.bytesWorld_at_new w el S0;have TK:(Lib.bytesCells w el S0).toList=(s.map fun c=>[Value.int .u8 (c.toNat:Int)]).flatten++List.replicate (grownCap w S0.size 0 el-S0.size) (.int .u8 0):=by
   have:(s.map fun c=>[Value.int .u8 (c.toNat:Int)]).flatten=s.map fun c=>Value.int .u8 (c.toNat:Int):=by
    have:=PU (l:=s.map fun c=>Value.int .u8 (c.toNat:Int));simpa[AHq,Function.comp_def]using this
   rw[this];simp[Lib.bytesCells,S0]
  have vx:(Lib.bytesCells w el S0).size=grownCap w S0.size 0 el:=by
   rw[←AIC,TK];have:((s.map fun c=>[Value.int .u8 (c.toNat:Int)]).flatten).length=s.length:=by
    have:=PU (l:=s.map fun c=>Value.int .u8 (c.toNat:Int));rw[AHq]at this;have e2:(s.map fun c=>[Value.int .u8 (c.toNat:Int)])=s.map ((fun v=>[v])∘fun c=>Value.int .u8 (c.toNat:Int)):=rfl;rw[e2,this];simp
   rw[AGP,this,AHF];omega
  have how:Ow (Lib.bytesWorld w el S0) E.S (8+1) (.sl (.int .u8)) [.slice (some ⟨w.heap.size,0,none⟩) (s.map fun c=>(c.toNat:Int)).length (grownCap w S0.size 0 el)] (s.map fun c=>(c.toNat:Int))
    (w.heap.size::(List.replicate s.length ([]:AAO)).flatten):=by
   refine Tv (css:=s.map fun c=>[Value.int .u8 (c.toNat:Int)]) new TK (by simp) (by simpa using kQ) (by simp[Ty.n];omega) (fun i hi hh=>by simp only[mk]at hi;omega) (by simp) fun i cs y G q1 q2 q3=> ?_
   simp only[AG5,AEx]at q1 q2;obtain⟨c1,z1,rfl⟩:=q1;obtain⟨c2,z2,rfl⟩:=q2;rw[z1]at z2;cases z2;have:G=[]:=AHP (AGN q3);subst this;simp[Ow]
  have hF:(List.replicate s.length ([]:AAO)).flatten=[]:=by simp
  rw[hF]at how;obtain⟨r1,r2,r3⟩:=ND h (Em.refl h.bx) (w':=Lib.bytesWorld w el S0) (d:=9) (by omega) how (by simp) (by simp) (by simp[Lib.bytesWorld_size]) (fun c hc _=>Lib.bytesWorld_at_old w el S0 c hc)
   ⟨by simp[Lib.bytesWorld,World.freeze]<;>rfl,by simp[Lib.bytesWorld,World.freeze]<;>rfl,by simp[Lib.bytesWorld,World.freeze]<;>rfl,by rw[Lib.bytesWorld_size];omega⟩
  refine⟨_,_,_,_,_,.inl ?_,r1,r3,r2.any,rfl,e⟩;simp only[execOp,ho,Qq,Sem.run_bind];have e5:=X7;simp only[S0]at e5;rw[e5];simp only[Result.andThen_ok,Sem.run_pure,AIR];rfl
 ·rename_i el z hs hd hv
  have h1:=F7 hT hs;have h2:=F7 hT hd;rw[hv]at hx;split at e
  case h_2=>cases e
  rename_i l RJ hl;have h3:=F7 hT RJ;simp only[Ve]at h1 h2 h3;obtain⟨Fs,hB,hS⟩:=h.bx;have P_:=Nv (Dx.refl σ.bx) hB hS.st hx hl;have hr:=a6 (P:=P) h1 h3 h2 P_;refine Hr.same h (v:= .string ⟨(l.map fun n:Int=>UInt8.ofNat n.toNat).toArray⟩) (x:= .c (.v .str (l.map fun n:Int=>UInt8.ofNat n.toNat))) ?_ (VR.str (E:=E) (vw:=σ.bx) _) e
  simp only[execOp,ho,Sem.run_bind,hr,Result.andThen_ok,Sem.run_pure]
 ·cases e
end
end Go.Fw
end
section
namespace Go.Fw
theorem Su:∀(l:List Value) (o:Nat) (arr:Array Value) (p q:List Value),p.length=o→(∃m:List Value,m.length=l.length∧arr.toList=p++m++q)→(Du arr o l).toList=p++l++q
 |[],o,arr,p,q,hp,⟨m,hm,h⟩=>by
  grind[List.eq_nil_of_length_eq_zero,Du]
 |c::l,o,arr,p,q,hp,⟨m,hm,h⟩=>by
  cases m with
  |nil=>simp_all
  |cons b m=>
   simp only[Du];have:=Su l (o+1) (arr.setIfInBounds o c) (p++[c]) q (by simp[hp]) ⟨m,by simp_all,by
    simp_all⟩
   simp_all
theorem Em.more{E E1 E2:Env}{w:World}{vw bx XS Ry:List Bx}{G F1 F2 A W:AAO}(k1:Em E w vw bx G E1 XS F1)(k2:Em E1 w vw XS (F1++G) E2 Ry F2)(hp:F1.Perm (A++W)):
  let E3:Env:={ E2 with S:=fun c=>E2.S c∨c∈W,T:=fun c=>E2.T c∨c∈W }
  Em E w vw bx G E3 Ry (A++F2):=by
 intro E3;have hB:=k2.boxes.perm (G':=(F2++A)++W++G) (by
  grind)
 obtain⟨hle,P9⟩:=hB.share;exact⟨(k1.le.trans k2.le).trans hle,k2.len.trans k1.len,fun b B hb=>(k2.within b B hb).elim .inl (k1.within b B),P9.perm (AH2 _ List.perm_append_comm)⟩
theorem Q2{w:World}{vw:List Bx}{r:Ty}(hg:r.fg=true):∀{n i:Nat} {parts:List (Nat×XV)} {vals:List (Nat×Value)} {E:Env} {bx:List Bx} {G:AAO} {d:Nat} {rows:List r.D} {K5:List Bx} {d':Nat},
  CD E w vw bx G→Dx bx vw→1≤d→jV E w vw parts vals→Qr r i n parts bx d=some (rows,K5,d')→1≤d'∧d'≤d∧rows.length=n∧ ∃(E':Env) (Fs:List AAO) (css:List (List Value)),
   Em E w vw bx G E' K5 Fs.flatten∧css.length=n∧Fs.length=n∧(∀(k:Nat) cs y G,css[k]? =some cs→rows[k]? =some y→Fs[k]? =some G→Ow w E'.S (d'-1) r cs y G)∧
   ∀(pre:List (List Value)) (arr:Array Value),pre.length=i→(∀c∈pre,c.length=r.n)→arr.toList=pre.flatten++(List.replicate n (DZ r)).flatten→
    ∃G3,Instr.fill (fun i=>some (i*r.n,r.n)) arr vals=some G3∧G3.toList=pre.flatten++css.flatten
 |0,i,[],[],E,bx,G,d,rows,K5,d',h,hw,hd,hp,e=>by
  simp only[Qr,AEY,AG0]at e;obtain⟨rfl,rfl,rfl⟩:=e;refine⟨hd,AGh _,rfl,E,[],[],Em.refl h,rfl,rfl,by simp,fun pre arr _ _ ha=>⟨arr,rfl,by simp_all⟩⟩
 |n+1,i,(j,x)::l,(j',v)::m,E,bx,G,d,rows,K5,d',h,hw,hd,hp,e=>by
  obtain⟨⟨hj,hx⟩,hp⟩:=hp;simp only at hj hx;subst hj;simp only[Qr]at e;split at e
  case isFalse=>cases e
  rename_i rq;subst rq;simp only[AEz,AEx,AG0]at e;obtain⟨⟨y1,XS,d1⟩,e1,⟨y2,Ry,d2⟩,e2,rfl,rfl,rfl⟩:=e;dsimp only at e2⊢;obtain⟨a1,a2,E1,F1,k1,o1⟩:=ic h hw hd hx e1;have il:=k1.le.keep (w:=w) (vw:=vw) h.st;obtain⟨b1,b2,b3,E2,Fs,css,k2,c1,c2,c3,c4⟩:=Q2 hg (G:=F1++G) k1.boxes (hw.bZ k1) a1 (hp.imp fun _ _ q=>⟨q.1,KB il q.2⟩) e2;obtain⟨A,W,bA,o1'⟩:=Gq (d:=d'-1) (by omega) o1;refine⟨b1,AHK b2 a2,by simp[b3],_,A::Fs,v.cells.toList::css,Em.more k1 k2 bA,by simp[c1],by simp[c2],fun k cs y G' q1 q2 q3=> ?_,fun pre arr jW uI ha=> ?_⟩
  ·cases k with
   |zero=>
    simp at q1 q2 q3;subst q1 q2 q3;refine DK (S:=fun b=>E1.S b∨b∈W) ?_ (fun _ _=>rfl) (fun _ _=>rfl) o1'
    intro c hc;exact hc.elim (fun h=> .inl (k2.le.S c h)) .inr
   |succ k=>
    refine DK (S:=E2.S) ?_ (fun _ _=>rfl) (fun _ _=>rfl) (c3 k cs y G' (by simp_all) (by simp_all) (by simp_all))
    simp_all
  ·have hlen:v.cells.toList.length=r.n:=PJ o1
   have hpf:pre.flatten.length=i*r.n:=by
    clear ha c4
    subst jW;clear e1 e2
    induction pre with
    |nil=>simp
    |cons c pre ih=>grind
   have SI:(Du arr (i*r.n) v.cells.toList).toList=pre.flatten++v.cells.toList++(List.replicate n (DZ r)).flatten:=
    Su _ _ _ _ _ hpf ⟨DZ r,by rw[Ed,hlen],by grind⟩
   obtain⟨G3,f1,f2⟩:=c4 (pre++[v.cells.toList]) (Du arr (i*r.n) v.cells.toList) (by simp[jW]) (by
    grind) (by simp_all)
   refine⟨G3,?_,by simp_all⟩;rw[dV (i:=i) (off:=i*r.n) (size:=r.n) rfl (by omega) ?_]
   all_goals grind[List.length_append,El,Ed,Nat.succ_mul]
 |n+1,i,[],[],E,bx,G,d,rows,K5,d',h,hw,hd,hp,e=>by
  simp only[Qr,AEx,AG0]at e;obtain⟨⟨y2,Ry,d2⟩,e2,rfl,rfl,rfl⟩:=e;obtain⟨b1,b2,b3,E2,Fs,css,k2,c1,c2,c3,c4⟩:=Q2 hg (G:=G) h hw hd (parts:=[]) (vals:=[]) trivial e2;refine⟨b1,b2,by simp[b3],E2,[]::Fs,DZ r::css,by simp_all,by simp[c1],by simp[c2],fun k cs y G' q1 q2 q3=> ?_,fun pre arr jW uI ha=> ?_⟩
  ·grind[Uh]
  ·obtain⟨G3,f1,f2⟩:=c4 (pre++[DZ r]) arr (by simp[jW]) (by
    grind[Ed]) (by grind)
   simp_all
 |0,_,_::_,_,_,_,_,_,_,_,_,_,_,_,_,e=>by simp[Qr]at e
 |0,_,[],_::_,_,_,_,_,_,_,_,_,_,_,hp,_=>hp.elim
 |_+1,_,[],_::_,_,_,_,_,_,_,_,_,_,_,hp,_=>hp.elim
 |_+1,_,_::_,[],_,_,_,_,_,_,_,_,_,_,hp,_=>hp.elim
section
variable{Y:Type} {P:Program} {T:GH} (hT:DO P T) {o:Oper} {E:Env} {σ:St} {a:Act} {w:World} {k:K Y} {y:Y}
include hT
theorem ZD(h:Rel E σ a w){t n:Nat}{ps:Array (Nat×Operand)}(ho:o.op= .buildSlice t n ps)(e:Lb T t n (ps.toList.map fun q=>(q.1,σ.ev q.2)) σ k=some y):Hr P o E σ a w k y:=by
 unfold Lb at e;split at e
 case h_2=>cases e
 rename_i el hd;split at e
 case h_2=>cases e
 rename_i r hr;split at e
 case isFalse=>cases e
 rename_i hc;simp only[AE1,AFS]at hc;obtain⟨⟨RJ,hn⟩,hrn⟩:=hc;simp only[AEz]at e;obtain⟨⟨rows,K5,d'⟩,e1,e⟩:=e;dsimp only at e;obtain⟨el',ti,hu,N3,hs,pe,hrow⟩:=G6 hT RJ;obtain⟨i,z,i1,i2,i3,i4,i5,hg⟩:=PD hT N3 hrow;have yO:=aW h ps;obtain⟨b1,b2,b3,E',Fs,css,k2,c1,c2,c3,c4⟩:=Q2 hg h.bx (Dx.refl _) (by omega) yO e1
 let zero:Array Value:=if n*r.n=0 then #[]else z.cells
 have hz:((Array.range (n*r.n)).map (fun j=>zero[j%zero.size]!)).toList=(List.replicate n (DZ r)).flatten:=by
  by_cases h0:n*r.n=0
  ·have h1:(List.replicate n (DZ r)).flatten=[]:=by
    rw[←List.length_eq_zero_iff,El,Ed,h0]
   rw[h1];simp[h0]
  ·have UZ:DZ r≠[]:=by
    intro he;have:=Ed r;rw[he]at this;simp at this;rw[←this]at h0;simp at h0
   have:=O0 i5 n UZ;rw[Ed]at this;simp only[zero,AE4 h0];exact this
 obtain⟨G3,f1,f2⟩:=c4 [] _ rfl (by simp) (by rw[hz];simp);simp only[AIH,AHS]at f2
 let w':=w.alloc (.cells G3 el')
 have new:w'.heap[w.heap.size]? =some (.cells G3 el'):=by
  show(w.heap.push (.cells G3 el'))[w.heap.size]? =_
  simp
 obtain⟨d,rfl⟩:∃m,d' =m+1:=⟨d'-1,by omega⟩;have hl:∀c∈css,c.length=r.n:=by
  intro c hc;obtain⟨j,hj,rfl⟩:=AHD hc;exact PJ (c3 j _ _ _ (AEX hj) (AEX (by omega)) (AEX (by omega)))
 have jt:css.flatten.length=n*r.n:=by
  rw[←c1];clear f2 c3 c4 c1
  induction css with
  |nil=>simp
  |cons c l ih=>simp[hl c (by simp),ih (fun c hc=>hl c (by simp[hc])),Nat.succ_mul];omega
 have vx:G3.size=n*r.n:=by rw[←AIC,f2,jt]
 obtain⟨Fs0,hB1,P9⟩:=k2.boxes;simp only[AF5]at P9;have how:Ow w' E'.S (d+1) (.sl r) [.slice (some ⟨w.heap.size,0,none⟩) rows.length n] rows (w.heap.size::Fs.flatten):=by
  refine Tv (css:=css) (ex:=[]) new (by simpa using f2) (by omega) (by omega) (by omega) (O_ _) (by omega) fun k cs y G q1 q2 q3=> ?_
  have Sg:∀c∈G,c∈Fs.flatten:=fun c hc=>AHA.2 ⟨G,AGN q3,hc⟩
  exact DK (fun _ h=>h) (fun c hc=>Fy (P9.TQ c (P9.st c hc))) (fun c hc=>Fy (P9.lt c (by simp only[AGf];exact .inr (Sg c hc)))) (by simpa using c3 k cs y G q1 q2 q3)
 rw[b3]at how;obtain⟨r1,r2,r3⟩:=ND h k2 (w':=w') (d:=d+1) (by omega) how (by
   intro c hc;rcases AGD.1 hc with rfl|hc
   ·exact .inr (AGh _)
   ·exact .inl hc) (by
   refine AIS.2 ⟨fun hc=> ?_,(AFX.1 P9.nodup).2.1⟩;have:=P9.lt w.heap.size (by simp only[AGf];exact .inr hc);omega) (by
   intro c hc;rcases AGD.1 hc with rfl|hc
   ·simp[w']
   ·have:=P9.lt c (by simp only[AGf];exact .inr hc)
    simp[w'];omega) (fun c hc _=>Fy hc) ⟨rfl,rfl,rfl,by simp[w']⟩
 refine⟨_,_,_,_,_,.inl ?_,r1,r3,r2.any,rfl,e⟩;have QD: ¬(n*r.n>2^24):=by
  have:n*r.n≤1024*1024:=Nat.mul_le_mul hn hrn;omega
 simp only[execOp,ho,Instr.buildSlice,Sem.run_bind,A9 hu,Result.andThen_ok,sizeOf,typeInfo,run_program,i1,Sem.run_pure,i2,hs,QD,AGn];by_cases h0:n*r.n=0
 ·have hz0:zero= #[]:=by simp only[zero,AEv h0]
  rw[hz0]at f1;simp only[h0,AHL,Sem.run_bind,Sem.run_pure,Result.andThen_ok];rw[h0]at f1;simp only[f1,newRow,Sem.run_bind,run_newObj,Result.andThen_ok,Sem.run_pure];rfl
 ·have hz0:zero=z.cells:=by simp only[zero,AE4 h0]
  rw[hz0]at f1;simp only[h0,AGn,Sem.run_bind,zeroValue,typeInfo,run_program,Result.andThen_ok,i1,Sem.run_pure,i4];simp only[f1,newRow,Sem.run_bind,run_newObj,Result.andThen_ok,Sem.run_pure];rfl
end
end Go.Fw
end
section
namespace Go.Fw
theorem SE(w:World)(b o:Nat)(v:Value):(w.setCell ⟨b,o,none⟩ v).heap=w.heap.modify b fun
 | .cells c elem frozen=> .cells (c.setIfInBounds o v) elem frozen
 |o=>o:=rfl
theorem D6:∀(vs:List Value) (o:Nat) (w:World) (b:Nat) (arr:Array Value) (ty:TypeId) (fr:ACN),w.heap[b]? =some (.cells arr ty fr)→
  (w.setCells b o vs).heap[b]? =some (.cells (Du arr o vs) ty fr)
 |[],_,_,_,_,_,_,h=>h
 |v::l,o,w,b,arr,ty,fr,h=>by
  simp only[World.setCells,Du];refine D6 l (o+1) _ b _ ty fr ?_
  rw[SE,Array.getElem?_modify,AEv rfl,h];rfl
theorem Cf:∀(vs:List Value) (o:Nat) (w:World) (b:Nat),(w.setCells b o vs).heap.size=w.heap.size
 |[],_,_,_=>rfl
 |v::l,o,w,b=>by
  simp only[World.setCells];rw[Cf l,SE,Array.size_modify]
theorem CX:∀(vs:List Value) (o:Nat) (w:World) (b c:Nat),c≠b→(w.setCells b o vs).heap[c]? =w.heap[c]?
 |[],_,_,_,_,_=>rfl
 |v::l,o,w,b,c,h=>by
  simp only[World.setCells];rw[CX l _ _ _ _ h,SE,Array.getElem?_modify,AE4 (fun e=>h e.symm)]
theorem BW:∀(vs:List Value) (o:Nat) (w:World) (b:Nat),Grown w (w.setCells b o vs)
 |[],_,_,_=>⟨rfl,rfl,rfl,AGh _⟩
 |v::l,o,w,b=>by
  have:=BW l (o+1) (w.setCell ⟨b,o,none⟩ v) b;refine⟨this.os,this.tape,this.output,?_⟩;rw[Cf];omega
theorem Og{arr:Array Value}:∀{l:List Value} {o j:Nat},o+l.length≤arr.size→(Du arr o l)[j]? =if o≤j∧j<o+l.length then l[j-o]? else arr[j]?:=by
 intro l
 induction l generalizing arr with
 |nil=>intro o j _;rw[AE4 (fun hh=>by grind)];rfl
 |cons c l ih=>
  intro o j h;simp only[AFq]at h;simp only[Du];grind
theorem HS{w:World}{b o:Nat}{arr:Array Value}{ty:TypeId}{fr:ACN}(h:w.heap[b]? =some (.cells arr ty fr)):w.cell? ⟨b,o,none⟩=arr[o]?:=by
 simp[World.cell?,h]
theorem J1{w:World}{b o:Nat}{vs:List Value}{arr:Array Value}{ty:TypeId}{fr:ACN}(h:w.heap[b]? =some (.cells arr ty fr))(hs:o+vs.length≤arr.size):A_ (w.setCells b o vs) b o vs:=by
 intro j v hj;have hl:=(AEy.1 hj).1;rw[HS (D6 vs o w b arr ty fr h),Og hs,AEv (by omega),show o+j-o=j by omega,hj]
theorem NY{w:World}{b b' o o':Nat}{vs cs:List Value}{arr:Array Value}{ty:TypeId}{fr:ACN}(hc:A_ w b' o' cs)(h:w.heap[b]? =some (.cells arr ty fr))(hs:o+vs.length≤arr.size)
  (ha:b'≠b∨o'+cs.length≤o∨o+vs.length≤o'):A_ (w.setCells b o vs) b' o' cs:=by
 intro j v hj;have hl:=(AEy.1 hj).1;by_cases hb:b' =b
 ·subst hb
  have:=hc j v hj;rw[HS h]at this;rw[HS (D6 vs o w b' arr ty fr h),Og hs,AE4 (by omega),this]
 ·rw[World.cell?_of_block (a:=⟨b',o'+j,none⟩) (CX vs o w b b' hb)]
  exact hc j v hj
theorem Nj{w:World}{b o n k:Nat}{arr:Array Value}{ty:TypeId}{fr:ACN}(h:w.heap[b]? =some (.cells arr ty fr))(hs:o+n≤arr.size)(hu:ga fr (arr.size+k)):w.there b o n:=by
 intro j hj;refine⟨?_,?_⟩
 ·rw[HS h]
  grind
 ·have:=hu (o+j) (by omega)
  grind[World.frozen?]
theorem XY{w:World}{S:Nat→Prop}:∀{r:Ty} {d:Nat} {cs:List Value} {y:r.D} {F:AAO},Ow w S d r cs y F→ ∀v∈cs,v.oneCell' =true
 | .int _,_,_,_,_,h,v,hv=>by simp only[Ow]at h;rw[h.1]at hv;simp at hv;subst hv;rfl
 | .bool,_,_,_,_,h,v,hv=>by simp only[Ow]at h;rw[h.1]at hv;simp at hv;subst hv;rfl
 | .str,_,_,_,_,h,v,hv=>by simp only[Ow]at h;rw[h.1]at hv;simp at hv;subst hv;rfl
 | .unit,_,_,_,_,h,v,hv=>by grind[Ow]
 | .sl _,0,_,_,_,h,v,hv=>by
  simp only[Ow,Rd]at h;obtain⟨⟨_,_,rfl,_⟩,_⟩:=h;simp at hv;subst hv;rfl
 | .sl _,_+1,_,_,_,h,v,hv=>by
  simp only[Ow]at h;obtain⟨_,_,rfl,_⟩:=h;simp at hv;subst hv;rfl
 | .cons _ _,_,_,_,_,h,v,hv=>by
  simp only[Ow]at h;obtain⟨u,l,F1,F2,rfl,_,h1,h2⟩:=h;rcases AGD.1 hv with rfl|hv
  ·exact XY h1 _ (by simp)
  ·exact XY h2 _ hv
section
variable{P:Program} {w:World}
structure Xm (P:Program) (w:World) (size n:Nat) (x:Value) (news:List Value):Prop where
 len:∀w',(Builtin.lenOf x).run P w' = .ok n w'
 cells:∀w',w'.heap=w.heap→(Builtin.firstCells size n x).run P w' = .ok news.toArray w'
theorem U5{ts:Array TypeId}{t u ty e:TypeId}(gi:ts[0]? =some t)(gT:ts[1]? =some u){i:TypeInfo}{size:Nat}(ht:P.underlying t=some (.slice e))(hu:(∃e,P.underlying u=some (.slice e))∨P.underlying u=some .string)(hi:P.info? e=some i)(KS:i.size=size)
  {b o OA WI n:Nat} {x:Value} {news:List Value} (hn:Xm P w size n x news) (Mu:OA+n≤WI) (aT:w.there b (o+OA*size) news.length) (h1:∀v∈news,v.oneCell' =true):
  (Builtin.append_ ts ty #[.slice (some ⟨b,o,none⟩) OA WI,x]).run P w= .ok (.slice (some ⟨b,o,none⟩) (OA+n) WI) (w.setCells b (o+OA*size) news):=by
 subst KS;have cN:=run_storeCells_cells (P:=P) b (o+OA*i.size) news 0 w (fun j hj=>by simpa using(aT j hj).1) (fun j hj=>by simpa using(aT j hj).2) h1;simp only[AHz]at cN;have hl:=hn.len w;have hf:=hn.cells w rfl;rcases hu with⟨e',hu⟩|hu
 ·simp[Builtin.append_,gi,gT,run_underlying ht,run_underlying hu,sizeOf,typeInfo,hi,hl,Mu,hf,Addr.add_eq,cN]
 ·simp[Builtin.append_,gi,gT,run_underlying ht,run_underlying hu,sizeOf,typeInfo,hi,hl,Mu,hf,Addr.add_eq,cN]
theorem Y_{ts:Array TypeId}{t u ty e:TypeId}(gi:ts[0]? =some t)(gT:ts[1]? =some u){i:TypeInfo}{size:Nat}(ht:P.underlying t=some (.slice e))(hu:(∃e,P.underlying u=some (.slice e))∨P.underlying u=some .string)(hi:P.info? e=some i)(KS:i.size=size)
  {a:Option Addr} {x:Value} (hn:Xm P w size 0 x []):
  (Builtin.append_ ts ty #[.slice a 0 0,x]).run P w= .ok (.slice a 0 0) w:=by
 subst KS;have hl:=hn.len w;have hf:=hn.cells w rfl;cases a with
 |none=>
  rcases hu with⟨e',hu⟩|hu
  ·simp[Builtin.append_,gi,gT,run_underlying ht,run_underlying hu,sizeOf,typeInfo,hi,hl,hf]
  ·simp[Builtin.append_,gi,gT,run_underlying ht,run_underlying hu,sizeOf,typeInfo,hi,hl,hf]
 |some a=>
  have cN:(storeCells (a.add (0*i.size)) [] 0).run P w= .ok () w:=rfl;rcases hu with⟨e',hu⟩|hu
  ·simp[Builtin.append_,gi,gT,run_underlying ht,run_underlying hu,sizeOf,typeInfo,hi,hl,hf,storeCells]
  ·simp[Builtin.append_,gi,gT,run_underlying ht,run_underlying hu,sizeOf,typeInfo,hi,hl,hf,storeCells]
theorem Sx{ts:Array TypeId}{t u ty e:TypeId}(gi:ts[0]? =some t)(gT:ts[1]? =some u){i:TypeInfo}{z:Value}{size:Nat}(ht:P.underlying t=some (.slice e))(hu:(∃e,P.underlying u=some (.slice e))∨P.underlying u=some .string)(hi:P.info? e=some i)(hz:i.zero=some z)(KS:i.size=size)
  {a:Option Addr} {OA WI n:Nat} {x:Value} {ABt news:List Value} (ho:∀w',w'.heap=w.heap→(Builtin.firstCells size OA (.slice a OA WI)).run P w' = .ok ABt.toArray w')
  (hn:Xm P w size n x news) (AAR:WI<OA+n) (h63:OA+n≤IQ) (pe:i.bytes≤512):
  (Builtin.append_ ts ty #[.slice a OA WI,x]).run P w= .ok (.slice (some ⟨w.heap.size,0,none⟩) (OA+n) (grownCap w (OA+n) WI e))
   (w.drew.alloc (.cells (ABt.toArray++news.toArray++Builtin.zeroCells z.cells (grownCap w (OA+n) WI e-(OA+n))) e)):=by
 subst KS;have hl:=hn.len w;have hf:=hn.cells w.drew rfl;have hfo:=ho w.drew rfl;have q8: ¬(OA+n≤WI):=by omega
 have hb:(OA+n)*i.bytes≤140737488355328:=by
  have:(OA+n)*i.bytes≤IQ*512:=Nat.mul_le_mul h63 pe;grind[IQ]
 have h48:=growslice_fits AAR hb;have ACv: ¬(281474976710656<Builtin.nextslicecap (OA+n) WI*i.bytes):=by omega
 have AAA: ¬(9223372036854775807<((OA:Int)+(n:Int))):=by grind[IQ]
 rcases hu with⟨e',hu⟩|hu
 ·simp[Builtin.append_,gi,gT,run_underlying ht,run_underlying hu,sizeOf,typeInfo,zeroValue,hi,hz,hl,q8,AAA,ACv,Question.forced,hf,hfo,newRow,grownCap]
  grind
 ·simp[Builtin.append_,gi,gT,run_underlying ht,run_underlying hu,sizeOf,typeInfo,zeroValue,hi,hz,hl,q8,AAA,ACv,Question.forced,hf,hfo,newRow,grownCap]
  grind
end
end Go.Fw
end
section
namespace Go.Fw
def Dw(w:World)(S:Nat→Prop)(d:Nat)(r:Ty)(css:List (List Value))(rows:List r.D)(Fs:List AAO):Prop:=
 css.length=rows.length∧Fs.length=rows.length∧(∀c∈css,c.length=r.n)∧ ∀(i:Nat) cs y G,css[i]? =some cs→rows[i]? =some y→Fs[i]? =some G→Ow w S d r cs y G
theorem Dw.mono{w w':World}{S S':Nat→Prop}{d:Nat}{r:Ty}{css:List (List Value)}{rows:List r.D}{Fs:List AAO}(h:Dw w S d r css rows Fs)(hS:∀c,S c→S' c)(hw:∀c,S c→w'.heap[c]? =w.heap[c]?)
  (hF:∀c∈Fs.flatten,w'.heap[c]? =w.heap[c]?):Dw w' S' d r css rows Fs:=
 ⟨h.1,h.2.1,h.2.2.1,fun i cs y G a b c=>DK hS hw (fun x hx=>hF x (AHA.2 ⟨G,AGN c,hx⟩)) (h.2.2.2 i cs y G a b c)⟩
theorem Dw.append{w:World}{S:Nat→Prop}{d:Nat}{r:Ty}{css AAC:List (List Value)}{rows B6:List r.D}{Fs Fs':List AAO}(h:Dw w S d r css rows Fs)(k:Dw w S d r AAC B6 Fs'):
  Dw w S d r (css++AAC) (rows++B6) (Fs++Fs'):=by
 refine⟨by simp[h.1,k.1],by simp[h.2.1,k.2.1],fun c hc=>(AGf.1 hc).elim (h.2.2.1 c) (k.2.2.1 c),fun i cs y G a b c=> ?_⟩;by_cases hi:i<rows.length
 ·rw[AFy (by rw[h.1];omega)]at a
  rw[AFy hi]at b;rw[AFy (by rw[h.2.1];omega)]at c;exact h.2.2.2 i cs y G a b c
 ·rw[AF_ (by rw[h.1];omega)]at a
  rw[AF_ (by omega)]at b;rw[AF_ (by rw[h.2.1];omega)]at c;rw[h.1]at a;rw[h.2.1]at c;exact k.2.2.2 _ cs y G a b c
theorem Dw.weaken{w:World}{S:Nat→Prop}{d d':Nat}{r:Ty}{css:List (List Value)}{rows:List r.D}{Fs:List AAO}(h:Dw w S d r css rows Fs)(hd:d'≤d):
  ∃(Gs:List AAO) (W:AAO),Fs.flatten.Perm (Gs.flatten++W)∧Dw w (fun c=>S c∨c∈W) d' r css rows Gs:=by
 obtain⟨Gs,Ws,h1,h2,h3,h4⟩:=aM (R:=fun i G F W=> ∀cs y,css[i]? =some cs→rows[i]? =some y→Ow w (fun c=>S c∨c∈W) d' r cs y F) Fs 0 (fun i G hG=>by
  rw[AHp];have hi:=(AEy.1 hG).1;have h1:=h.1;have h2:=h.2.1;obtain⟨F,W,hp,ho⟩:=Gq hd (h.2.2.2 i _ _ G (AEX (by omega)) (AEX (by omega)) hG);grind)
 refine⟨Gs,Ws.flatten,h3,h.1,h1.trans h.2.1,h.2.2.1,fun i cs y G a b c=> ?_⟩;have hi:=(AEy.1 c).1;have hw:Ws[i]? =some (Ws[i]'(by omega)):=AEX _;have hf:Fs[i]? =some (Fs[i]'(by omega)):=AEX _;have:=h4 i _ _ _ hf c hw cs y (by simp_all) (by simp_all);exact DK (fun x hx=>hx.imp id fun hx=>AHA.2 ⟨_,AGN hw,hx⟩) (fun _ _=>rfl) (fun _ _=>rfl) this
theorem E8{n:Nat}:∀{css:List (List Value)},(∀c∈css,c.length=n)→css.flatten.length=css.length*n
 |[],_=>by simp
 |c::l,h=>by simp[h c (by simp),E8 (css:=l) (fun c hc=>h c (by simp[hc])),Nat.succ_mul];omega
theorem Dw.one{w:World}{S:Nat→Prop}{d:Nat}{r:Ty}{css:List (List Value)}{rows:List r.D}{Fs:List AAO}(h:Dw w S d r css rows Fs):∀v∈css.flatten,v.oneCell' =true:=by
 intro v hv;obtain⟨c,hc,hv⟩:=AHA.1 hv;obtain⟨i,hi,rfl⟩:=AHD hc;have h1:=h.1;have h2:=h.2.1;exact XY (h.2.2.2 i _ _ _ (AEX hi) (AEX (by omega)) (AEX (by omega))) v hv
theorem Dw.flat{w:World}{B S:Nat→Prop}{d:Nat}{r:Ty}(hf:r.flat=true){css:List (List Value)}{rows:List r.D}(h1:css.length=rows.length)(h2:∀c∈css,c.length=r.n)
  (h3:∀(i:Nat) cs y,css[i]? =some cs→rows[i]? =some y→Rd w B r cs y):Dw w S d r css rows (List.replicate rows.length []):=by
 refine⟨h1,by simp,h2,fun i cs y G a b c=> ?_⟩;grind[List.mem_of_getElem?,W0]
theorem A_.heap{w w':World}{b o:Nat}{cs:List Value}(h:A_ w b o cs)(e:w'.heap=w.heap):A_ w' b o cs:=h.of_block (by rw[e])
theorem LA{P:Program}{w:World}{a:Option Addr}{n cap size:Nat}{css:List (List Value)}(hl:css.length=n)(hc:∀c∈css,c.length=size)
  (h:n=0∨ ∃b o,a=some ⟨b,o,none⟩∧A_ w b o css.flatten):Xm P w size n (.slice a n cap) css.flatten:=by
 refine⟨fun w' =>rfl,fun w' e=> ?_⟩;have hlen:css.flatten.length=n*size:=by rw[E8 hc,hl]
 rcases h with rfl|⟨b,o,rfl,h⟩
 ·have:css=[]:=AGw hl
  subst this;cases a with
  |none=>rfl
  |some a=>
   simp only[Builtin.firstCells,Nat.zero_mul,AIH];rfl
 ·simp only[Builtin.firstCells]
  rw[←hlen];exact IK (h.heap e)
theorem rI{P:Program}{w:World}{s:List UInt8}:Xm P w 1 s.length (.string ⟨s.toArray⟩) (s.map fun c=>[Value.int .u8 (c.toNat:Int)]).flatten:=by
 refine⟨fun w' =>rfl,fun w' _=> ?_⟩;have KS:(⟨s.toArray⟩:ByteArray).size=s.length:=by rfl
 have e1:(⟨s.toArray⟩:ByteArray).extract 0 s.length=⟨s.toArray⟩:=by
  rw[←KS];apply ByteArray.ext;simp
 simp only[Builtin.firstCells,e1,Sem.run_pure];have:(s.map fun c=>[Value.int .u8 (c.toNat:Int)]).flatten=s.map fun c=>Value.int .u8 (c.toNat:Int):=by
  have:=PU (l:=s.map fun c=>Value.int .u8 (c.toNat:Int));grind[List.map_map,Function.comp_def]
 simp_all
theorem Zk{w:World}{S:Nat→Prop}{d:Nat}{r:Ty}{v:Value}{rows:List r.D}{F:AAO}(h:Ow w S (d+1) (.sl r) [v] rows F):
  ∃a cap css Fs R,v= .slice a rows.length cap∧rows.length≤cap∧Dw w S d r css rows Fs∧F.Perm (Fs.flatten++R)∧
   ((cap=0∧F=[])∨ ∃b o arr ty fr,a=some ⟨b,o,none⟩∧w.heap[b]? =some (.cells arr ty fr)∧o+cap*r.n≤arr.size∧ga fr (arr.size+mk r)∧F=b::Fs.flatten∧A_ w b o css.flatten):=by
 simp only[Ow]at h;obtain⟨a,cap,e,hle,h⟩:=h;simp only[AGv,AHM]at e;subst e;rcases h with⟨h,rfl⟩|⟨b,o,arr,ty,fr,Fs,rfl,hb,KS,hu,rfl,hFl,hr⟩
 ·have:rows=[]:=AGw (by omega)
  subst this;exact⟨a,cap,[],[],[],rfl,hle,⟨rfl,rfl,by simp,fun i cs y G h=>by simp at h⟩,by simp,.inl ⟨h,rfl⟩⟩
 ·
  have key:∀(n o:Nat) (ys:List r.D) (Fs:List AAO),ys.length=n→Fs.length=n→(∀(i:Nat) (y:r.D) (G:AAO),ys[i]? =some y→Fs[i]? =some G→ ∃cs,cs.length=r.n∧A_ w b (o+i*r.n) cs∧Ow w S d r cs y G)→
    ∃css,Dw w S d r css ys Fs∧A_ w b o css.flatten:=by
   intro n
   induction n with
   |zero=>
    intro o ys Fs h1 h2 _;obtain rfl:=AGw h1;obtain rfl:=AGw h2;exact⟨[],⟨rfl,rfl,by simp,fun i cs y G h=>by simp at h⟩,fun _ _ h=>by simp at h⟩
   |succ n ih=>
    intro o ys Fs h1 h2 hh;obtain⟨y,ys,rfl⟩:=AIc h1;obtain⟨G,Fs,rfl⟩:=AIc h2;obtain⟨cs,c1,c2,c3⟩:=hh 0 y G rfl rfl;obtain⟨css,d1,d2⟩:=ih (o+r.n) ys Fs (by simp_all) (by simp_all) (fun i z G hz hG=>by
     obtain⟨cs,e1,e2,e3⟩:=hh (i+1) z G (by simp_all) (by simp_all);grind)
    refine⟨cs::css,⟨by simp[d1.1],by omega,fun c hc=> ?_,fun i T5 y' G' a b c=> ?_⟩,?_⟩
    ·rcases AGD.1 hc with rfl|hc
     ·omega
     ·exact d1.2.2.1 c hc
    ·cases i with
     |zero=>simp_all
     |succ i=>exact d1.2.2.2 i T5 y' G' (by simp_all) (by simp_all) (by simp_all)
    grind[List.flatten_cons,A_.append]
  obtain⟨css,k1,k2⟩:=key rows.length o rows Fs rfl hFl hr;refine⟨_,cap,css,Fs,[b],rfl,hle,k1,?_,.inr ⟨b,o,arr,ty,fr,rfl,hb,KS,hu,rfl,k2⟩⟩;grind
theorem Xw{w:World}{S:Nat→Prop}:∀{r:Ty} {cs:List Value} {x:r.D},Rd w S r cs x→Ow w S 0 r cs x []
 | .cons c r,cs,x,hr=>by
  simp only[Rd]at hr;obtain⟨v,l,rfl,h1,h2⟩:=hr;simp only[Ow];exact⟨v,l,[],[],rfl,rfl,Xw h1,Xw h2⟩
 | .unit,_,_,hr=>by grind[Rd,Ow]
 | .int k,_,_,hr=>by grind[Rd,Ow]
 | .bool,_,_,hr=>by grind[Rd,Ow]
 | .str,_,_,hr=>by grind[Rd,Ow]
 | .sl q,_,_,hr=>by simp only[Ow];simp_all
theorem VG{P:Program}{E:Env}{w:World}{vw bx:List Bx}{G:AAO}(h:CD E w vw bx G)(hw:Dx bx vw){x:AV}{v:Value}(hv:VR E w vw x v){r:Ty}{rows:List r.D}{K5:List Bx}{d:Nat}
  (e:Zj bx x=some ⟨r,rows,K5,d⟩):1≤d∧ ∃E' F css Fs R,Em E w vw bx G E' K5 F∧F.Perm (List.flatten Fs++R)∧Dw w E'.S (d-1) r css rows Fs∧Xm P w r.n rows.length v css.flatten:=by
 have plain:∀{B:Nat→Prop} {ys:List r.D},r.flat=true→Rd w B (.sl r) [v] ys→ ∀S:Nat→Prop,∃css,Dw w S 8 r css ys (List.replicate ys.length [])∧Xm P w r.n ys.length v css.flatten:=by
  intro B ys hf hr S;simp only[Rd]at hr;obtain⟨a,cap,e1,hle,hr⟩:=hr;simp only[AGv,AHM]at e1;subst e1;rcases hr with hr|⟨b,o,rfl,_,hr⟩
  ·have:ys=[]:=AGw hr
   subst this;exact⟨[],⟨rfl,rfl,by simp,fun i cs y G h=>by simp at h⟩,LA (css:=[]) rfl (by simp) (.inl rfl)⟩
  ·obtain⟨css,c1,c2,c3,c4⟩:=bX hr
   exact⟨css,Dw.flat hf c1 c2 c4,LA c1 c2 (.inr ⟨b,o,rfl,c3⟩)⟩
 have done:∀{B:Nat→Prop} {ys:List r.D},r.flat=true→Rd w B (.sl r) [v] ys→rows=ys→K5=bx→d=9→
   1≤d∧ ∃E' F css Fs R,Em E w vw bx G E' K5 F∧F.Perm (List.flatten Fs++R)∧Dw w E'.S (d-1) r css rows Fs∧Xm P w r.n rows.length v css.flatten:=by
  intro B ys hf hr e1 e2 e3;subst e1 e2 e3;obtain⟨css,k1,k2⟩:=plain hf hr E.S;exact⟨by omega,E,[],css,_,[],Em.refl h,by simp,k1,k2⟩
 unfold Zj at e;split at e
 ·rename_i s
  simp only[AEY,AFU]at e;obtain⟨rfl,e⟩:=e;have e:=AGy e;simp only[AG0]at e;obtain⟨rfl,rfl,rfl⟩:=e;have Qq:=Pp hv;subst Qq;refine⟨by omega,E,[],s.map fun c=>[Value.int .u8 (c.toNat:Int)],_,[],Em.refl h,?_,Dw.flat (B:=fun _=>False) rfl (by simp) (by simp[Ty.n]) (fun i cs y a b=> ?_),?_⟩
  ·simp
  ·simp only[AG5,AEx]at a b
   obtain⟨c1,z1,rfl⟩:=a;obtain⟨c2,z2,rfl⟩:=b;grind[Rd]
  grind[rI,Ty.n]
 ·rename_i s q ys
  split at e
  ·rename_i hf
   simp only[AEY,AFU]at e;obtain⟨rfl,e⟩:=e;have e:=AGy e;simp only[AG0]at e;obtain⟨rfl,rfl,rfl⟩:=e;exact done hf hv rfl rfl rfl
  ·split at e
   case isFalse=>cases e
   rename_i hs;simp only[AEY,AFU]at e;obtain⟨rfl,e⟩:=e;have e:=AGy e;simp only[AG0]at e;obtain⟨rfl,rfl,rfl⟩:=e;subst hs;simp only[VR,AHL]at hv;simp only[Rd]at hv;obtain⟨a,cap,e1,hle,hr⟩:=hv;simp only[AGv,AHM]at e1;subst e1;have key:∃css:List (List Value),List.length css=ys.length∧(∀c∈css,c.length=q.n)∧(∀(i:Nat) cs y,css[i]? =some cs→ys[i]? =some y→Rd w E.S q cs y)∧Xm P w q.n ys.length (.slice a ys.length cap) css.flatten:=by
    rcases hr with hr|⟨b,o,rfl,_,hr⟩
    ·have:ys=[]:=AGw hr
     subst this;exact⟨[],rfl,by simp,fun i cs y h=>by simp at h,LA (css:=[]) rfl (by simp) (.inl rfl)⟩
    ·obtain⟨css,c1,c2,c3,c4⟩:=bX hr
     exact⟨css,c1,c2,c4,LA c1 c2 (.inr ⟨b,o,rfl,c3⟩)⟩
   obtain⟨css,c1,c2,c3,c4⟩:=key;refine⟨AGh _,E,[],css,List.replicate ys.length [],[],Em.refl h,by simp,⟨c1,by simp,c2,fun i cs y G a b c=> ?_⟩,c4⟩;grind[List.mem_of_getElem?,Xw]
 ·rename_i b
  split at e
  case h_2=>cases e
  rename_i d0 q ys hb;split at e
  ·rename_i hf
   simp only[AEY,AFU]at e;obtain⟨rfl,e⟩:=e;have e:=AGy e;simp only[AG0]at e;obtain⟨rfl,rfl,rfl⟩:=e;obtain⟨Fs,hB,hS⟩:=h;exact done hf (Rg hw hB hS.st hv (q:=q) (ys:=ys) (by simp[JI,hb,Eh])) rfl rfl rfl
  ·simp only[AEY,AFU]at e
   obtain⟨rfl,e⟩:=e;have e:=AGy e;simp only[AG0]at e;obtain⟨rfl,rfl,rfl⟩:=e;obtain⟨F,⟨hd,ho⟩,hB⟩:=h.take hb;have nw:=Qc hw hb;simp only[VR,nw,CI,AEY]at hv;obtain⟨_,_,_,rfl⟩:=hv;obtain⟨m,rfl⟩:∃m,d0=m+1:=⟨d0-1,by omega⟩;obtain⟨a,cap,css,Fs,R,e1,hle,S3,hp,hcase⟩:=Zk ho;refine⟨hd,E,F,css,Fs,R,⟨Le.refl _,by simp,fun n B hn=> ?_,hB⟩,hp,S3,?_⟩
   ·grind
   ·rw[e1]
    refine LA S3.1 S3.2.2.1 ?_
    grind
 ·rename_i b p _
  split at e
  case h_2=>cases e
  rename_i d0 q ys hb;simp only[AEz]at e;obtain⟨⟨q',zs⟩,e1,e⟩:=e;dsimp only at e;split at e
  case isFalse=>cases e
  rename_i hf;simp only[AEY,AFU]at e;obtain⟨rfl,e⟩:=e;have e:=AGy e;simp only[AG0]at e;obtain⟨rfl,rfl,rfl⟩:=e;obtain⟨Fs,hB,hS⟩:=h;exact done hf (Rg hw hB hS.st hv (q:=q') (ys:=zs) (by simp[JI,hb,e1])) rfl rfl rfl
 ·rename_i b p off n
  split at e
  case h_2=>cases e
  rename_i d0 q ys hb;simp only[AEz]at e;obtain⟨⟨q',zs⟩,e1,e⟩:=e;dsimp only at e;split at e
  case isFalse=>cases e
  rename_i hf;simp only[AEY,AFU]at e;obtain⟨rfl,e⟩:=e;have e:=AGy e;simp only[AG0]at e;obtain⟨rfl,rfl,rfl⟩:=e;obtain⟨Fs,hB,hS⟩:=h;exact done hf (Rg hw hB hS.st hv (q:=q') (ys:=(zs.drop off).take n) (by simp[JI,hb,e1])) rfl rfl rfl
 simp_all
theorem U7{E:Env}{w:World}{vw bx:List Bx}{G:AAO}(h:CD E w vw bx G)(hw:Dx bx vw){x:AV}{v:Value}(hv:VR E w vw x v){r:Ty}{rows:List r.D}{K5:List Bx}{d:Nat}
  (e:Zs bx x=some ⟨r,rows,K5,d⟩):1≤d∧ ∃F1 F2,Em E w vw bx G E K5 (F1++F2)∧Ow w E.S d (.sl r) [v] rows F1:=by
 have tk:∀{b d0:Nat} {q:Ty} {ys:List q.D},bx[b]? =some (.sl d0 q ys)→ ∃F,1≤d0∧Ow w E.S d0 (.sl q) [E.FG b] ys F∧Em E w vw bx G E (bx.set b .dead) F:=by
  intro b d0 q ys hb;obtain⟨F,⟨hd,ho⟩,hB⟩:=h.take hb;refine⟨F,hd,ho,⟨Le.refl _,by simp,fun n B hn=> ?_,hB⟩⟩;grind
 unfold Zs at e;split at e
 ·rename_i b
  split at e
  case h_2=>cases e
  rename_i d0 q ys hb;simp only[AEY,AFU]at e;obtain⟨rfl,e⟩:=e;have e:=AGy e;simp only[AG0]at e;obtain⟨rfl,rfl,rfl⟩:=e;obtain⟨F,hd,ho,hT⟩:=tk hb;have nw:=Qc hw hb;simp only[VR,nw,CI,AEY]at hv;obtain⟨_,_,_,rfl⟩:=hv;exact⟨hd,F,[],by simp_all,ho⟩
 ·rename_i b off n
  split at e
  case h_2=>cases e
  rename_i d0 q ys hb;simp only[AEY,AFU]at e;obtain⟨rfl,e⟩:=e;have e:=AGy e;simp only[AG0]at e;obtain⟨rfl,rfl,rfl⟩:=e;obtain⟨F,hd,ho,hT⟩:=tk hb;have nw:=Qc hw hb;simp only[VR,nw,CI,AEY]at hv;obtain⟨_,_,q',zs,a,len,cap,h1,h2,h3,rfl⟩:=hv;simp only[Eh,AEY,AFU]at h1;obtain⟨rfl,h1⟩:=h1;obtain rfl:=AGy h1;rw[h3]at ho;obtain⟨m,rfl⟩:∃m,d0=m+1:=⟨d0-1,by omega⟩;obtain⟨F1,F2,hp,l3⟩:=pJ ho h2;exact⟨hd,F1,F2,⟨hT.le,hT.len,hT.within,hT.boxes.perm (AH2 _ hp)⟩,l3⟩
 simp_all
end Go.Fw
end
section
namespace Go.Fw
theorem U2{P:Program}{w:World}{a:Option Addr}{n cap size:Nat}{css:List (List Value)}(hl:css.length=n)(hc:∀c∈css,c.length=size)
  (h:n=0∨ ∃b o,a=some ⟨b,o,none⟩∧A_ w b o css.flatten):∀w',w'.heap=w.heap→(Builtin.firstCells size n (.slice a n cap)).run P w' = .ok css.flatten.toArray w':=
 (LA (P:=P) (cap:=cap) hl hc h).cells
theorem Qw{z:Array Value}{n:Nat}:(Builtin.zeroCells z n).size=n*z.size:=size_zeroCells z n
section
variable{Y:Type} {P:Program} {T:GH} (hT:DO P T) {o:Oper} {E:Env} {σ:St} {a:Act} {w:World} {k:K Y} {y:Y}
include hT
theorem Yf(h:Rel E σ a w){E2:Env}{Ry:List Bx}{F Fd R:AAO}{t u ty:TypeId}{ts:Array TypeId}(gi:ts[0]? =some t)(gT:ts[1]? =some u)
  (hu:(∃e,P.underlying u=some (.slice e))∨P.underlying u=some .string) {m:Nat} {r:Ty} (RJ:T.JB t r=true)
  (kT:Em E w σ.bx σ.bx [] E2 Ry F) {v1 v2:Value} {drows MI:List r.D} {css:List (List Value)} {Fs:List AAO}
  (ho:Ow w E2.S (m+1) (.sl r) [v1] drows Fd) (hs:Dw w E2.S m r css MI Fs) (hn:Xm P w r.n MI.length v2 css.flatten) (hp:F.Perm (Fd++Fs.flatten++R)) (QD:drows.length+MI.length≤IQ):
  ∃v w' E',(Builtin.append_ ts ty #[v1,v2]).run P w= .ok v w'∧Rel E' { σ with bx:=Ry++[.sl (m+1) r (drows++MI)] } a w'∧Lh [] E σ.bx w E' (Ry++[.sl (m+1) r (drows++MI)]) w'∧
   XR E' w' (Ry++[.sl (m+1) r (drows++MI)]) (.c (.ref Ry.length [])) v:=by
 obtain⟨e,ti,hut,N3,mV,pe,hrow⟩:=G6 hT RJ;obtain⟨i,z,i1,i2,i3,i4,i5,hg⟩:=PD hT N3 hrow;rw[mV]at i2;obtain⟨Fs0,hB1,P9⟩:=kT.boxes;simp only[AF5]at P9;have zI:∀c∈Fd,c∈F:=fun c hc=>hp.mem_iff.2 (by simp[hc])
 have hsF:∀c∈Fs.flatten,c∈F:=fun c hc=>hp.mem_iff.2 (by simp_all)
 have ndF:=(AFX.1 (hp.nodup_iff.1 (AFX.1 P9.nodup).2.1)).1;have ltF:∀c∈F,c<w.heap.size:=fun c hc=>P9.lt c (by simp_all)
 have AH7:∀c∈F,¬E2.S c:=fun c hc hS=>P9.free c (by simp_all) (P9.st c hS)
 have wZ:=ho;obtain⟨ad,cap,dcss,Fs1,R1,rfl,hle,hd,zA,hcase⟩:=Zk ho;have cO:css.flatten.length=MI.length*r.n:=by rw[E8 hs.2.2.1,hs.1]
 have rv:dcss.flatten.length=drows.length*r.n:=by rw[E8 hd.2.2.1,hd.1]
 by_cases Mu:drows.length+MI.length≤cap
 ·rcases hcase with⟨h0,hF0⟩|⟨b,of,arr,ty0,fr,rfl,hb,KS,hunf,rfl,hc⟩
  ·
   have hd0:drows=[]:=AGw (by omega);have hs0:MI=[]:=AGw (by omega);subst hd0 hs0;have zS:css=[]:=AGw hs.1;subst zS h0;have X7:=Y_ (P:=P) (w:=w) (ty:=ty) gi gT hut hu i1 i2 (a:=ad) (x:=v2) (by simp_all);obtain⟨r1,r2,r3⟩:=ND h kT (w':=w) (d:=m+1) (by omega) wZ (fun c hc=> .inl (zI c hc)) (AFX.1 ndF).1 (fun c hc=>ltF c (zI c hc)) (fun _ _ _=>rfl) ⟨rfl,rfl,rfl,AGh _⟩;grind
  ·
   have UD:of+drows.length*r.n+css.flatten.length≤arr.size:=by
    have:(drows.length+MI.length)*r.n≤cap*r.n:=AGS _ Mu;grind
   have X7:=U5 (P:=P) (w:=w) (ty:=ty) gi gT hut hu i1 i2 (b:=b) (o:=of) hn Mu (Nj hb UD hunf) hs.one;have hbF:b∈F:=zI b (by simp);have UZ:∀c,c∈Fs1.flatten∨c∈Fs.flatten∨E2.S c→c≠b:=by
    grind
   have Ud:∀c,c≠b→(w.setCells b (of+drows.length*r.n) css.flatten).heap[c]? =w.heap[c]?:=fun c hc=>CX _ _ _ _ _ hc
   have jm:=hd.mono (w':=w.setCells b (of+drows.length*r.n) css.flatten) (S':=E2.S) (fun _ h=>h) (fun c hc=>Ud c (UZ c (.inr (.inr hc)))) (fun c hc=>Ud c (UZ c (.inl hc)));have qh:=hs.mono (w':=w.setCells b (of+drows.length*r.n) css.flatten) (S':=E2.S) (fun _ h=>h) (fun c hc=>Ud c (UZ c (.inr (.inr hc)))) (fun c hc=>Ud c (UZ c (.inr (.inl hc))));have Ft:=jm.append qh;have qi:A_ (w.setCells b (of+drows.length*r.n) css.flatten) b of (dcss++css).flatten:=by
    grind[List.flatten_append,A_.append,NY,J1]
   have how:Ow (w.setCells b (of+drows.length*r.n) css.flatten) E2.S (m+1) (.sl r) [.slice (some ⟨b,of,none⟩) (drows.length+MI.length) cap] (drows++MI) (b::(Fs1++Fs).flatten):=by
    simp only[Ow];refine⟨_,cap,by rw[AGP],by simp_all,.inr ⟨b,of,_,ty0,fr,Fs1++Fs,rfl,D6 _ _ _ _ _ _ _ hb,by rw[D5];omega,by rw[D5];omega,rfl,Ft.2.1,fun j q G hq hG=> ?_⟩⟩;have hj:=(AEy.1 hq).1;have h1:=Ft.1;have lr:j<(dcss++css).length:=by omega
    refine⟨(dcss++css)[j],Ft.2.2.1 _ (AFj _),fun x u hx=> ?_,Ft.2.2.2 j _ _ _ (AEX lr) hq hG⟩;have xF:=(AEy.1 hx).1;rw[Ft.2.2.1 _ (AFj _)]at xF;have:=Qs (n:=r.n) (css:=dcss++css) (ex:=[]) (i:=j) Ft.2.2.1 (AEX lr) xF;rw[AF5,hx]at this;have:=qi _ _ this;grind
   have bA:(b::(Fs1++Fs).flatten)=(b::Fs1.flatten)++Fs.flatten:=by simp
   rw[bA]at how;obtain⟨r1,r2,r3⟩:=ND h kT (w':=w.setCells b (of+drows.length*r.n) css.flatten) (d:=m+1) (by omega) how (fun c hc=> .inl ((AGf.1 hc).elim (zI c) (hsF c))) ndF
    (fun c hc=>by grind[Cf]) (fun c hc hcF=>Ud c (fun e=>hcF (e▸hbF))) (BW _ _ _ _)
   grind
 ·
  have hold:drows.length=0∨ ∃b o,ad=some ⟨b,o,none⟩∧A_ w b o dcss.flatten:=by
   grind
  have X7:=Sx (P:=P) (w:=w) (ty:=ty) gi gT hut hu i1 i4 i2 (U2 (P:=P) (cap:=cap) hd.1 hd.2.2.1 hold) hn (by omega) QD (by omega);have y8:=grownCap_ge w (drows.length+MI.length) cap e
  generalize zC:grownCap w (drows.length+MI.length) cap e=gc at X7 y8
  let arr:Array Value:=dcss.flatten.toArray++css.flatten.toArray++Builtin.zeroCells z.cells (gc-(drows.length+MI.length))
  have TK:arr.toList=(dcss++css).flatten++(Builtin.zeroCells z.cells (gc-(drows.length+MI.length))).toList:=by simp[arr]
  have ri:z.cells.size=r.n:=by rw[←AIC,i5,Ed]
  have AGe:arr.size=gc*r.n:=by
   simp only[arr,AIo,AIp,Qw,ri,cO,rv,←AHi];simp_all
  let w':=w.drew.alloc (.cells arr e)
  have new:w'.heap[w.heap.size]? =some (.cells arr e):=by
   show(w.heap.push (.cells arr e))[w.heap.size]? =_
   simp
  have pX:∀c,c<w.heap.size→w'.heap[c]? =w.heap[c]?:=fun c hc=>Fy (w:=w) (o:= .cells arr e) hc
  have hR1:∀c∈Fs1.flatten,c∈Fd:=fun c hc=>zA.mem_iff.2 (by simp_all)
  have jm:=hd.mono (w':=w') (S':=E2.S) (fun _ h=>h) (fun c hc=>pX c (P9.TQ c (P9.st c hc))) (fun c hc=>pX c (ltF c (zI c (hR1 c hc))));have qh:=hs.mono (w':=w') (S':=E2.S) (fun _ h=>h) (fun c hc=>pX c (P9.TQ c (P9.st c hc))) (fun c hc=>pX c (ltF c (hsF c hc)));have Ft:=jm.append qh;have how:Ow w' E2.S (m+1) (.sl r) [.slice (some ⟨w.heap.size,0,none⟩) (drows++MI).length gc] (drows++MI) (w.heap.size::(Fs1++Fs).flatten):=
   Tv new TK Ft.1 (by simp_all) (by omega) (O_ _) Ft.2.1 Ft.2.2.2
  rw[AGP]at how;have Sg:∀c∈(Fs1++Fs).flatten,c∈Fd++Fs.flatten:=by
   grind
  have nd1:(Fs1++Fs).flatten.Nodup:=by
   grind
  have AJu:∀c∈(Fs1++Fs).flatten,c∈F:=fun c hc=>(AGf.1 (Sg c hc)).elim (zI c) (hsF c)
  obtain⟨r1,r2,r3⟩:=ND h kT (w':=w') (d:=m+1) (by omega) how (by
    simp_all) (by
    grind) (by
    grind) (fun c hc _=>pX c hc) ⟨rfl,rfl,rfl,by simp[w']⟩
  grind
end
end Go.Fw
end
section
namespace Go.Fw
theorem Pe{α β:Type}{args:Array α}{f:α→β}{x y:β}(h:args.toList.map f=[x,y]):∃a b,args= #[a,b]∧f a=x∧f b=y:=by
 obtain⟨l⟩:=args
 match l,h with
 |[a,b],h=>grind
theorem P2{α β:Type}{args:Array α}{f:α→β}{x:β}(h:args.toList.map f=[x]):∃a,args= #[a]∧f a=x:=by
 obtain⟨l⟩:=args;simp_all
section
variable{Y:Type} {P:Program} {T:GH} (hT:DO P T) {o:Oper} {E:Env} {σ:St} {a:Act} {w:World} {k:K Y} {y:Y}
include hT
theorem iP(h:Rel E σ a w){c:Call}{x1 x2:XV}(ho:o.op= .call c)(hc:c.callee= .builtin .append)(Ff:c.args.toList.map σ.ev=[x1,x2])(e:Uj T c.argTypes σ x1 x2 k=some y):Hr P o E σ a w k y:=by
 obtain⟨o1,o2,hargs',rfl,rfl⟩:=Pe Ff;have Rz:=h.ev o1;have RQ:=h.ev o2;have exec:∀{v w'},(Builtin.append_ c.argTypes o.type #[a.eval o1,a.eval o2]).run P w= .ok v w'→(execOp a.eval o).run P w= .ok (.value v) w':=by
  intro v w' hr;simp only[execOp,ho,resolve,hc,hargs',invoke,builtin,Sem.run_bind,Sem.run_pure,Result.andThen_ok,List.map_toArray,AHb,AIA,hr]
 unfold Uj at e;split at e
 case h_2=>cases e
 rename_i t u gi gT;split at e
 case isFalse=>cases e
 rename_i hu;have hu':(∃e,P.underlying u=some (.slice e))∨P.underlying u=some .string:=by
  rw[AHN]at hu;grind[Xx,Pq]
 split at e
 ·
  rename_i z xA vQ;rw[xA]at Rz;rw[vQ]at RQ;simp only[AEz]at e;obtain⟨⟨r,rows,K5,d⟩,e1,e⟩:=e;dsimp only at e;split at e
  case isFalse=>cases e
  rename_i RJ;split at e
  case isFalse=>cases e
  rename_i QD;obtain⟨hd,E',F,css,Fs,R,kT,hp,hs,hn⟩:=VG (P:=P) h.bx (Dx.refl _) RQ e1;obtain⟨m,rfl⟩:∃m,d=m+1:=⟨d-1,by omega⟩;have AFC:a.eval o1= .slice none 0 0:=Rz;obtain⟨v,w',E3,hr,r1,r2,r3⟩:=Yf hT h (ty:=o.type) gi gT hu' RJ kT (v1:= .slice none 0 0) (Fd:=[]) (drows:=[]) aV hs hn (R:=R) (by simp_all) (by simp_all);rw[←AFC]at hr;simp only[AHS]at r1 r3;exact⟨_,_,_,_,_,.inl (exec hr),r1,r3,r2.any,rfl,e⟩
 ·rename_i z1 z2 rm xA vQ
  rw[xA]at Rz;rw[vQ]at RQ;simp only[AEz]at e;obtain⟨⟨r,rows,XS,d⟩,e1,e⟩:=e;dsimp only at e;split at e
  case isFalse=>cases e
  rename_i RJ;simp only[AEz]at e;obtain⟨⟨q,srows0,Ry,ds⟩,e2,MI,e3,e⟩:=e;dsimp only at e e3;obtain⟨hqr,e4⟩:=FM e3;subst hqr;subst e4;dsimp only at e;split at e
  case isFalse=>cases e
  rename_i QD;obtain⟨hd,F1,F2,k1,ho1⟩:=U7 h.bx (Dx.refl _) Rz e1;obtain⟨hds,E',F3,css,Fs,R,k2,hp,hs,hn⟩:=VG (P:=P) k1.boxes ((Dx.refl _).bZ k1) RQ e2;obtain⟨m,hm⟩:∃m,min d ds=m+1:=⟨min d ds-1,by omega⟩;rw[hm]at e;obtain⟨A,W1,p1,ho1'⟩:=Gq (d:=m+1) (by omega) ho1;obtain⟨Gs,W2,p2,qh⟩:=hs.weaken (d':=m) (by omega);have hB:=k2.boxes.perm (G':=(A++Gs.flatten++(R++F2))++(W1++W2)++[]) (by
   grind)
  obtain⟨hle,P9⟩:=hB.share;have kT:Em E w σ.bx σ.bx [] _ Ry (A++Gs.flatten++(R++F2)):=⟨(k1.le.trans k2.le).trans hle,k2.len.trans k1.len,fun b B hb=>(k2.within b B hb).elim .inl (k1.within b B),P9⟩;have yu:Ow w (fun c=>E'.S c∨c∈W1++W2) (m+1) (.sl q) [a.eval o1] rows A:=
   DK (fun c hc=>hc.imp (k2.le.S c) (by simp_all)) (fun _ _=>rfl) (fun _ _=>rfl) ho1'
  have wO:Dw w (fun c=>E'.S c∨c∈W1++W2) m q css srows0 Gs:=qh.mono (fun c hc=>hc.imp id (by simp_all)) (fun _ _=>rfl) (fun _ _=>rfl);obtain⟨v,w',E3,hr,r1,r2,r3⟩:=Yf hT h (ty:=o.type) gi gT hu' RJ kT yu wO hn (AI5 _) QD;exact⟨_,_,_,_,_,.inl (exec hr),r1,r3,r2.any,rfl,e⟩
 simp_all
end
end Go.Fw
end
section
namespace Go.Fw
theorem ZL{P:Program}{w:World}{b o:Nat}{ty:TypeId}{v:Value}(ht:w.there b o v.cells.toList.length)(hi:(P.info? ty).map (·.size)=some v.cells.toList.length)(h1:∀u∈v.cells.toList,u.oneCell' =true):
  (Instr.storeAt ty (.pointer (some ⟨b,o,none⟩)) v).run P w= .ok () (w.setCells b o v.cells.toList):=by
 have:=run_storeCells_cells (P:=P) b o v.cells.toList 0 w (fun j hj=>by simpa using(ht j hj).1) (fun j hj=>by simpa using(ht j hj).2) h1;cases hq:P.info? ty with
 |none=>simp_all
 |some i=>
  have hs:v.cells.size=i.size:=by simp_all
  simp only[AHz]at this;simp[Instr.storeAt,Instr.sureAddr,storeVar,sizeOf,typeInfo,hq,hs,this]
theorem SA{E E1 E':Env}{w w':World}{vw XS K5:List Bx}{F:AAO}(b0:Nat)(k:Em E w vw vw [] E1 XS F)(st:∀c,E.S c→E.T c)(hlen:vw.length≤K5.length)
  (gU:∀b d r rows,b≠b0→b<vw.length→K5[b]? =some (.sl d r rows)→XS[b]? =some (.sl d r rows)) (qW:∀b,b<vw.length→E'.FH b=E1.FH b) (ZO:∀b,b<vw.length→E'.FG b=E1.FG b) (hT:E'.T=E1.T) (hS:E'.S=E1.S)
  (hw:∀c,c<w.heap.size→c∉F→w'.heap[c]? =w.heap[c]?)
  (h0:∀d r rows,K5[b0]? =some (.sl d r rows)→ ∃d0 MJ,vw[b0]? =some (.sl d0 r MJ)∧
   ∀p,CK r MJ p→ ∀q ys,Eh r MJ p=some ⟨q,ys⟩→CK r rows p∧(∃gX,Eh r rows p=some ⟨q,gX⟩∧List.length gX=List.length ys)∧
    ∀h,F4 w (E.FG b0) p=some h→F4 w' (E'.FG b0) p=some h):Mb E w vw E' w' K5:=by
 have hB:=k.boxes;obtain⟨Fs,⟨h1,h2⟩,h3⟩:=hB;simp only[AF5]at h3;have jK:∀c,E1.T c→w'.heap[c]? =w.heap[c]?:=fun c hc=>hw c (h3.TQ c hc) fun hf=>h3.free c (by simp[hf]) hc
 refine⟨hlen,fun b hb=>by rw[qW b hb,k.le.FH],fun c hc=>by rw[hT];exact k.le.T c hc,fun c hc=>by rw[hS];exact k.le.S c hc,st,fun c hc=>jK c (k.le.T c hc),fun b d r rows hb e=> ?_⟩;by_cases hb0:b=b0
 ·simp_all
 have e1:=gU b _ _ _ hb0 hb e;rcases k.within b _ e1 with e2|e2
 ·cases e2
 ·refine⟨d,rows,e2,fun p hp q ys hg=>⟨hp,⟨ys,hg,rfl⟩,fun h' hh=> ?_⟩⟩
  have hF:Fs[b]? =some (Fs[b]'(by grind)):=AEX _;obtain⟨hd,ho⟩:=h2 b _ _ e1 hF;rw[ZO b hb];rw[←k.le.FG]at hh;refine fK ho (fun c hc=>jK c (h3.st c hc)) (fun c hc=> ?_) hp hg hh;have Sg:c∈Fs.flatten:=AHA.2 ⟨_,AGN hF,hc⟩;exact hw c (h3.lt c (by simp[Sg])) fun hf=>(AFX.1 h3.nodup).2.2 c Sg c hf rfl
def Bx.map(f:AV→AV):Bx→Bx
 | .mem cs=> .mem (cs.map f)
 |B=>B
theorem CD.ADJ{E E':Env}{w w':World}{vw vw' bx:List Bx}{G:AAO}(f:AV→AV)(h:CD E w vw bx G)(k:∀x v,VR E w vw x v→VR E' w' vw' (f x) v)
  (hS:∀c,E.S c→E'.S c) (qW:∀b,b<bx.length→E'.FH b=E.FH b) (ZO:∀b,b<bx.length→E'.FG b=E.FG b)
  (hw:∀c,(E.S c∨(¬E.T c∧c∉G))→c<w.heap.size→w'.heap[c]? =w.heap[c]?)
  (qC:∀F,Sep E w (F++G)→Sep E' w' (F++G)):CD E' w' vw' (bx.map (Bx.map f)) G:=by
 obtain⟨Fs,⟨hl,h1⟩,h2⟩:=h;refine⟨Fs,⟨by simp_all,fun n B F hn hF=> ?_⟩,qC _ h2⟩;rw[AG5,AEx]at hn;obtain⟨B,hn,rfl⟩:=hn;have IV:=(AEy.1 hn).1;have h3:=h1 n B F hn hF;have xO:∀c∈F,c∈Fs.flatten:=fun c hc=>AHA.2 ⟨F,AGN hF,hc⟩
 have hFw:∀c∈F,w'.heap[c]? =w.heap[c]?:=fun c hc=>hw c (.inr ⟨h2.free c (by simp_all),fun hg=>by
  have:=(AFX.1 h2.nodup).2.2 c (xO c hc) c hg;omega⟩) (h2.lt c (by simp_all))
 have dI:∀c,E.S c→w'.heap[c]? =w.heap[c]?:=fun c hc=>hw c (.inl hc) (h2.TQ c (h2.st c hc))
 cases B with
 |mem cs=>
  obtain⟨rfl,arr,ty,fr,ha,hu,hv⟩:=h3;refine⟨by simp_all,arr,ty,fr,?_,hu,Bh.H6 f k hv⟩;simp_all
 |sl d r rows=>
  obtain⟨hd,ho⟩:=h3;refine⟨hd,?_⟩;grind[DK]
 |dead=>exact h3
theorem Bx.map_id:∀B:Bx,Bx.map id B=B
 | .mem cs=>by simp[Bx.map]
 | .sl _ _ _=>rfl
 | .dead=>rfl
theorem RS(bx:List Bx):bx.map (Bx.map id)=bx:=by
 induction bx with
 |nil=>rfl
 |cons B l ih=>simp[ih,Bx.map_id]
theorem Yj(b:Nat)(bx:List Bx):bx.map (lj b)=bx.map (Bx.map (Ga b)):=by
 rfl
theorem mD{E:Env}{σ:St}{a:Act}{w:World}(h:Rel E σ a w){b j:Nat}{cs T5:List AV}(hb:σ.bx[b]? =some (.mem cs)){xs:List AV}{vs:List Value}(hx:XO E w σ.bx xs vs)(UZ:xs≠[])
  (e:PG cs j xs=some T5):
  w.there (E.FH b) j vs.length∧Rel E { σ with bx:=σ.bx.set b (.mem T5) } a (w.setCells (E.FH b) j vs)∧Lh [b] E σ.bx w E (σ.bx.set b (.mem T5)) (w.setCells (E.FH b) j vs):=by
 have st:=h.bx.st;obtain⟨F,⟨rfl,arr,ty,fr,ha,hu,hv⟩,hB⟩:=h.bx.take hb;simp only[AF5]at hB;have IV:=(AEy.1 hb).1;rcases PS hv hx e with⟨h1,h2⟩|⟨h1,_⟩
 case inr=>simp_all
 have UD:j+vs.length≤arr.size:=by
  have l1:=Bh.len hv;have l2:=Bh.len hx;simp_all
 have S1: ¬E.T (E.FH b):=hB.re _ (by simp);have hB0:=hB;have Ud:∀c,c≠E.FH b→(w.setCells (E.FH b) j vs).heap[c]? =w.heap[c]?:=fun c hc=>CX _ _ _ _ _ hc
 have hw:∀c,c<w.heap.size→c∉[E.FH b]→(w.setCells (E.FH b) j vs).heap[c]? =w.heap[c]?:=fun c _ hc=>Ud c (by simp_all)
 have kT:Em E w σ.bx σ.bx [] E (σ.bx.set b .dead) [E.FH b]:=⟨Le.refl _,by simp,fun n B hn=>by
  grind,by simp_all⟩
 have keep:Mb E w σ.bx E (w.setCells (E.FH b) j vs) (σ.bx.set b (.mem T5)):=SA b kT st (by simp) (fun n d r rows hn _ hq=>by
   grind) (fun _ _=>rfl) (fun _ _=>rfl) rfl rfl hw (fun d r rows hq=>by
   simp_all)
 refine⟨Nj ha UD hu,⟨h.JQ,h.tm.imp fun _ _ hq=>KB keep hq,?_⟩,⟨⟨fun _ h=>h,fun _ h=>h,fun _ h=> .inl h,fun _ h=> .inl h,fun c hc=>Ud c (fun e=>S1 (e▸hc)),(BW _ _ _ _).os,(BW _ _ _ _).tape,(BW _ _ _ _).output,(BW _ _ _ _).size⟩,by simp,fun _ _=>⟨rfl,rfl⟩,fun n hn=>by
  grind,fun n B B' cH hB NJ kF=>by
  simp at cH;rw[AHB (fun e=>cH e.symm),hB]at NJ;cases NJ;refine⟨OI.refl kF,fun c hc=>Ud c (fun e=> ?_)⟩;obtain⟨Fs,⟨f1,f2⟩,f3⟩:=hB0;have P9:(σ.bx.set b .dead)[n]? =some B:=by grind
  have hF:Fs[n]? =some (Fs[n]'(by grind)):=AEX _;rcases Ua (f2 n B _ P9 hF) hc with hs|hs
  ·simp_all
  ·exact(AFX.1 f3.nodup).2.2 c (AHA.2 ⟨_,AGN hF,hs⟩) (E.FH b) (by simp) e⟩⟩
 have hT:=hB.turn (E':=E) (w':=w.setCells (E.FH b) j vs) (vw':=σ.bx.set b (.mem T5)) (fun x v hq=>EN keep hq) (fun _ h=>h) (fun _ _=>rfl) (fun _ _=>rfl) (fun c hc _=>Ud c (fun e=>by
   simp_all)) (fun F hF=>⟨hF.nodup,hF.free,fun c hc=>by rw[Cf];exact hF.lt c hc,hF.st,fun c hc=>by rw[Cf];exact hF.TQ c hc⟩)
 have:=CD.put (b:=b) (B:= .mem T5) (F:=[E.FH b]) (G:=[]) (by simpa using hT) (by simp_all) ⟨rfl,Du arr j vs,ty,fr,D6 _ _ _ _ _ _ _ ha,by rw[D5];omega,h1.imp fun _ _ hq=>EN keep hq⟩;simp_all
theorem PL:∀{r:Ty} {j j':Nat} {x:r.D} {t:Ty} {y:t.D} {x':r.D},Cx r j x t y=some x'→j'≠j→Az r j' x' =Az r j' x
 | .cons c r,0,j',x,t,y,x',e,hj=>by
  simp only[Cx]at e;split at e
  ·rename_i h
   subst h;simp only[AEY]at e;subst e;cases j' with
   |zero=>omega
   |succ j' =>rfl
  simp_all
 | .cons c r,j+1,j',x,t,y,x',e,hj=>by
  simp only[Cx,AEx]at e;obtain⟨z,e1,rfl⟩:=e;cases j' with
  |zero=>rfl
  |succ j' =>
   simp only[Az];exact PL e1 (by omega)
 | .unit,_,_,_,_,_,_,e,_=>by rfl
 | .int k,0,j',x,t,y,x',e,hj=>by cases j' with
  |zero=>omega
  |succ j' =>rfl
 | .bool,0,j',x,t,y,x',e,hj=>by cases j' with
  |zero=>omega
  |succ j' =>rfl
 | .str,0,j',x,t,y,x',e,hj=>by cases j' with
  |zero=>omega
  |succ j' =>rfl
 | .sl _,0,j',x,t,y,x',e,hj=>by cases j' with
  |zero=>omega
  |succ j' =>rfl
 | .int _,_+1,_,_,_,_,_,e,_=>by simp[Cx]at e
 | .bool,_+1,_,_,_,_,_,e,_=>by simp[Cx]at e
 | .str,_+1,_,_,_,_,_,e,_=>by simp[Cx]at e
 | .sl _,_+1,_,_,_,_,_,e,_=>by simp[Cx]at e
theorem N2:∀{r:Ty} {j:Nat} {x:r.D} {t:Ty} {y:t.D} {x':r.D},Cx r j x t y=some x'→Az r j x' =some ⟨t,y⟩∧ ∃y0:t.D,Az r j x=some ⟨t,y0⟩
 | .cons c r,0,x,t,y,x',e=>by
  simp only[Cx]at e;split at e
  ·rename_i h
   subst h;simp only[AEY]at e;subst e;exact⟨rfl,_,rfl⟩
  simp_all
 | .cons c r,j+1,x,t,y,x',e=>by
  simp only[Cx,AEx]at e;obtain⟨z,e1,rfl⟩:=e;simp only[Az];exact N2 e1
 | .unit,_,_,_,_,_,e=>by simp[Cx]at e
 | .int k,0,x,t,y,x',e=>by
  simp only[Cx]at e;split at e
  ·rename_i h;subst h;cases e;exact⟨rfl,_,rfl⟩
  simp_all
 | .bool,0,x,t,y,x',e=>by
  simp only[Cx]at e;split at e
  ·rename_i h;subst h;cases e;exact⟨rfl,_,rfl⟩
  simp_all
 | .str,0,x,t,y,x',e=>by
  simp only[Cx]at e;split at e
  ·rename_i h;subst h;cases e;exact⟨rfl,_,rfl⟩
  simp_all
 | .sl _,0,x,t,y,x',e=>by
  simp only[Cx]at e;split at e
  ·rename_i h;subst h;cases e;exact⟨rfl,_,rfl⟩
  simp_all
 | .int _,_+1,_,_,_,_,e=>by simp[Cx]at e
 | .bool,_+1,_,_,_,_,e=>by simp[Cx]at e
 | .str,_+1,_,_,_,_,e=>by simp[Cx]at e
 | .sl _,_+1,_,_,_,_,e=>by simp[Cx]at e
theorem YJ{r:Ty}{rows:List r.D}{i k:Nat}{x:r.D}(hi:i<rows.length):rowAt r (rows.set i x) k=if k=i then x else rowAt r rows k:=by
 unfold rowAt;grind
theorem aI:∀{p:List O7} {r:Ty} {rows B6:List r.D} {q:Ty} {ys gX:List q.D},Eh r rows p=some ⟨q,ys⟩→gX.length=ys.length→aG r rows p q gX=some B6→B6.length=rows.length
 |[],r,rows,B6,q,ys,gX,h1,h2,h3=>by
  simp only[Eh,AEY,AFU]at h1;obtain⟨rfl,h1⟩:=h1;obtain rfl:=AGy h1;simp only[aG,AIt,Lc,AEY]at h3;simp_all
 |s::p,r,rows,B6,q,ys,gX,h1,h2,h3=>by
  simp only[aG]at h3;split at h3
  ·simp only[AEz,AEx]at h3
   grind
  simp_all
theorem Yt{t:Ty}(ht:t.scalar=true){y:t.D}{q:Ty}{i j:Nat}:∀{p':List O7} {r:Ty} {rows B6:List r.D} {p:List O7} {ys:List q.D} {Rb:q.D},CK r rows p→Eh r rows p=some ⟨q,ys⟩→i<ys.length→
  Cx q j (rowAt q ys i) t y=some Rb→aG r rows p q (ys.set i Rb)=some B6→CK r rows p'→ ∀q' zs,Eh r rows p' =some ⟨q',zs⟩→
   CK r B6 p'∧ ∃zs',Eh r B6 p' =some ⟨q',zs'⟩∧List.length zs' =List.length zs
 |[],r,rows,B6,p,ys,Rb,_,hg,hi,hc,hs,_,q',zs,gp=>by
  simp only[Eh,AEY,AFU]at gp;obtain⟨rfl,gp⟩:=gp;obtain rfl:=AGy gp;exact⟨by simp[CK],B6,by rfl,aI hg (by simp) hs⟩
 |s'::p',r,rows,B6,p,ys,Rb,hp,hg,hi,hc,hs,vW,q',zs,gp=>by
  have hlen:=aI hg (by simp) hs;simp only[CK]at vW⊢;obtain⟨g1,g2,g3⟩:=vW;simp only[Eh]at gp⊢;split at gp
  case h_2=>cases gp
  rename_i q0 x0 Vj;rw[Vj]at g3;dsimp only at g3;have key:∃x1,Az r s'.j (rowAt r B6 s'.i)=some ⟨.sl q0,x1⟩∧CK q0 x1 p'∧ ∃zs',Eh q0 x1 p' =some ⟨q',zs'⟩∧List.length zs' =List.length zs:=by
   have same:Az r s'.j (rowAt r B6 s'.i)=some ⟨.sl q0,x0⟩→ ∃x1,Az r s'.j (rowAt r B6 s'.i)=some ⟨.sl q0,x1⟩∧CK q0 x1 p'∧ ∃zs',Eh q0 x1 p' =some ⟨q',zs'⟩∧List.length zs' =List.length zs:=
    fun h=>⟨x0,h,g3,zs,gp,rfl⟩
   cases p with
   |nil=>
    simp only[Eh,AEY,AFU]at hg;obtain⟨rfl,hg⟩:=hg;obtain rfl:=AGy hg;simp only[aG,AIt,Lc,AEY]at hs;subst hs;apply same;rw[YJ hi];split
    ·rename_i e
     subst e;by_cases ej:s'.j=j
     ·obtain⟨_,y0,h0⟩:=N2 hc
      rw[ej,h0]at Vj;simp only[AEY,AFU]at Vj;obtain⟨rfl,_⟩:=Vj;simp[Ty.scalar]at ht
     grind[PL]
    omega
   |cons s p=>
    simp only[CK]at hp;obtain⟨k1,k2,k3⟩:=hp;simp only[Eh]at hg;split at hg
    case h_2=>cases hg
    rename_i r' x hcx;rw[hcx]at k3;dsimp only at k3;simp only[aG,hcx,AEz,AEx]at hs;obtain⟨x',mV,row2,wO,rfl⟩:=hs;rw[YJ k1];rw[YJ k1]at same;split
    ·rename_i e
     rw[AEv e]at same;rw[e]at Vj;by_cases ej:s'.j=s.j
     ·rw[ej]at Vj⊢
      rw[hcx]at Vj;simp only[AEY,AFU,Ty.sl.injEq]at Vj;obtain⟨rfl,Vj⟩:=Vj;obtain rfl:=AGy Vj;obtain⟨m1,m2⟩:=Yt ht k3 hg hi hc mV g3 q' zs gp;grind[N2]
     grind[PL]
    simp_all
  grind
theorem dx{w w':World}{B:Nat→Prop}(RL:∀A,w'.cell? A=w.cell? A∨ ∃v,w'.cell? A=some v∧isSlice v=false):∀{p:List O7} {r:Ty} {h:Value} {rows:List r.D} {hh:Value},
  Rd w' B (.sl r) [h] rows→CK r rows p→F4 w h p=some hh→F4 w' h p=some hh
 |[],_,h,_,hh,_,_,e=>by grind[CI]
 |s::p,r,h,rows,hh,hr,hp,e=>by
  simp only[CK]at hp;obtain⟨hi,KS,hp⟩:=hp;simp only[Rd]at hr;obtain⟨a,cap,e1,_,hr⟩:=hr;obtain rfl:=(List.cons.inj e1).1;rcases hr with hr|⟨b,o,rfl,hb,hr⟩
  ·omega
  obtain⟨cs,hl,hc,hrow⟩:=hr s.i _ (Lg hi);split at hp
  case h_2=>exact hp.elim
  rename_i q x Vj;obtain⟨v,hv,hrv⟩:=Uk hrow Vj;have vP:=hc _ _ hv;rw[←KS]at vP;simp only[F4]at e⊢;split at e
  case h_2=>cases e
  rename_i v0 hv0;rcases RL ⟨b,o+s.i*s.sz+s.j,none⟩with h1|⟨u,h1,h2⟩
  ·rw[h1,hv0]
   rw[h1,hv0]at vP;cases vP;exact dx RL hrv hp e
  ·rw[vP]at h1
   cases h1;simp only[Rd]at hrv;obtain⟨_,_,e2,_⟩:=hrv;simp only[AGv,AHM]at e2;grind[isSlice]
theorem o_{E E':Env}{w w':World}{vw vw':List Bx}{b d d':Nat}{r:Ty}{rows B6:List r.D}(k:Mb E w vw E' w' (vw'.set b .dead))(hb:vw[b]? =some (.sl d r rows))(nz:vw'[b]? =some (.sl d' r B6))(hl:B6.length=rows.length)
  (hh:E'.FG b=E.FG b) {x:AV} {v:Value} (h:VR E w vw x v):VR E' w' vw' (Ga b x) v:=by
 have h1:=EN k h;have Ud:∀{b'},b'≠b→(vw'.set b .dead)[b']? =vw'[b']?:=fun e=>AHB (fun h=>e h.symm)
 cases x with
 |v t x=>exact h1
 |sl s r x=>exact h1
 |nil=>exact h1
 |Fg c j=>exact⟨by simpa using h1.1,h1.2⟩
 |KU s r x j=>exact h1
 |fn f HI=>exact⟨fun c hc=>by simpa using h1.1 c hc,h1.2⟩
 |cI f rows=>exact h1
 |kj=>exact h1
 |undef=>trivial
 |ref c p=>
  cases p with
  |nil=>
   simp only[Ga];by_cases e:c=b
   ·subst e
    simp only[VR,hb,nz]at h⊢;refine⟨h.1,by simp[CK],⟨_,rfl⟩,?_⟩;grind[CI]
   grind[VR]
  |cons s p=>
   grind[Ga,VR]
 |win c p off n=>
  cases p with
  |nil=>
   simp only[Ga];by_cases e:c=b
   ·subst e
    simp only[VR,hb,nz]at h⊢;obtain⟨h0,_,q,ys,a,len,cap,e1,e2,e3,e4⟩:=h;simp only[Eh,AEY,AFU]at e1;obtain⟨rfl,e1⟩:=e1;obtain rfl:=AGy e1;refine⟨h0,by simp[CK],r,B6,a,len,cap,rfl,by omega,?_,e4⟩;grind[CI]
   grind[VR]
  |cons s p=>
   grind[Ga,VR]
 |GZ c p i sz j=>
  cases p with
  |nil=>
   simp only[Ga];by_cases e:c=b
   ·subst e
    simp only[VR,hb,nz]at h⊢;obtain⟨h0,_,q,ys,bb,o,len,cap,e1,e2,e3,e4⟩:=h;simp only[Eh,AEY,AFU]at e1;obtain⟨rfl,e1⟩:=e1;obtain rfl:=AGy e1;refine⟨h0,by simp[CK],r,B6,bb,o,len,cap,rfl,by omega,?_,e4⟩;grind[CI]
   grind[VR]
  |cons s p=>
   grind[Ga,VR]
theorem qH{E E':Env}{w w':World}{vw vw':List Bx}{b:Nat}(k:∀x v,VR E w vw x v→VR E' w' vw' (Ga b x) v){x:XV}{v:Value}(h:XR E w vw x v):XR E' w' vw' (ec b x) v:=by
 cases x with
 |c x=>exact k x v h
 |agg l=>
  obtain⟨vs,rfl,Nx⟩:=h;exact⟨vs,rfl,Bh.H6 _ k Nx⟩
 |KK l=>
  obtain⟨vs,rfl,Nx⟩:=h;refine⟨vs,rfl,Bh.H6 _ (fun x v hx=> ?_) Nx⟩;cases x with
  |inl x=>exact k x v hx
  |inr q=>
   obtain⟨us,rfl,hus⟩:=hx;exact⟨us,rfl,Bh.H6 _ k hus⟩
end Go.Fw
end
section
namespace Go.Fw
theorem Z7{w:World}{vw:List Bx}{E:Env}{bx:List Bx}{G:AAO}(h:CD E w vw bx G)(hw:Dx bx vw){d:Nat}(hd:1≤d){q:Ty}{np:q.D}{j:Nat}{x:XV}{v:Value}(hv:XR E w vw x v){Rb:q.D}{K5:List Bx}{d':Nat}
  (e:cD d q np j x bx=some (Rb,K5,d')):1≤d'∧d'≤d∧ ∃E' F,Em E w vw bx G E' K5 F∧
   ((j=0∧x.plain=false∧Ow w E'.S (d'-1) q v.cells.toList Rb F)∨(∃t y,v.cells.toList=[v]∧Ow w E'.S (d'-1) t [v] y F∧Cx q j np t y=some Rb∧(x.plain=true→t.scalar=true∧isSlice v=false))):=by
 unfold cD at e;split at e
 ·rename_i l
  split at e
  case isFalse=>cases e
  rename_i hj;obtain⟨vs,rfl,Nx⟩:=hv;obtain⟨h1,h2,E',F,h3,h4⟩:=Qy h hw hd Nx e;exact⟨h1,h2,E',F,h3,.inl ⟨hj,rfl,h4⟩⟩
 ·rename_i x
  split at e
  case h_2=>cases e
  rename_i t y0 hc;simp only[AEz,AEx,AG0]at e;obtain⟨⟨y,XS,d1⟩,e1,row,e2,rfl,rfl,rfl⟩:=e;dsimp only at e2;have Qq:VR E w vw x v:=hv;have hk:x.known=true:=by grind[AV.known,Tl]
  obtain⟨h1,h2,E',F,h3,h4⟩:=Sq h hw hd Qq e1;refine⟨h1,h2,E',F,h3,.inr ⟨t,y,by rw[(fI Qq hk).2],h4,e2,fun hp=> ?_⟩⟩;cases x with
  |v u z=>
   simp only[Tl,AEx,AG0]at e1;obtain⟨z',e3,_⟩:=e1;obtain⟨rfl,_⟩:=FM e3;obtain⟨hs,hr⟩:=Qq;refine⟨hs,?_⟩;cases u<;>simp_all[Ty.scalar,Rd]<;>rfl
  |_=>simp[XV.plain]at hp
 simp_all
theorem bt{f:AV→AV}{bx:List Bx}{b d:Nat}{r:Ty}{rows:List r.D}:(bx.set b (.sl d r rows)).map (Bx.map f)=(bx.map (Bx.map f)).set b (.sl d r rows):=by
 rw[List.map_set];rfl
theorem o9{f:AV→AV}{bx:List Bx}{n d:Nat}{r:Ty}{rows:List r.D}(h:(bx.map (Bx.map f))[n]? =some (.sl d r rows)):bx[n]? =some (.sl d r rows):=by
 rw[AG5,AEx]at h;obtain⟨B,h1,h2⟩:=h;cases B with
 |mem cs=>simp[Bx.map]at h2
 |sl d' r' B6=>rw[h1];exact congrArg some h2
 |dead=>simp[Bx.map]at h2
theorem eR{E:Env}{σ:St}{a:Act}{w:World}(h:Rel E σ a w){b i sz j:Nat}{p:List O7}{va v:Value}(wA:VR E w σ.bx (.GZ b p i sz j) va){x:XV}(hv:XR E w σ.bx x v)(o0:∀u∈v.cells.toList,u.oneCell' =true)
  {σ':St} (e:Vg σ (.c (.GZ b p i sz j)) x=some σ'):
  ∃bb oo E',va= .pointer (some ⟨bb,oo,none⟩)∧w.there bb oo v.cells.toList.length∧Rel E' σ' a (w.setCells bb oo v.cells.toList)∧Lh [b] E σ.bx w E' σ'.bx (w.setCells bb oo v.cells.toList)∧σ'.tm.length=σ.tm.length:=by
 simp only[Vg]at e;split at e
 case h_2=>cases e
 rename_i d r rows hb;split at e
 case isFalse=>cases e
 rename_i jW;simp only[AEz]at e;obtain⟨⟨q,ys⟩,hg,e⟩:=e;dsimp only at e;split at e
 case isFalse=>cases e
 rename_i KS;simp only[AEz,AEx]at e;obtain⟨⟨Rb,Ry,d2⟩,e1,B6,e2,e3⟩:=e;dsimp only at e1 e2 e3;have st:=h.bx.st;simp only[VR,hb]at wA;obtain⟨_,hp,q1,ys1,bb,o,len,cap,g1,hi,g3,rfl⟩:=wA;rw[hg]at g1;simp only[AEY,AFU]at g1;obtain⟨rfl,g1⟩:=g1;obtain rfl:=AGy g1;have IV:=(AEy.1 hb).1;obtain⟨Gb,⟨hd1,ho⟩,hB⟩:=h.bx.take hb;have Ht:Dx (σ.bx.set b .dead) σ.bx:=fun n B hn=>by
  grind
 obtain⟨hd2,hd3,E1,Fx,k1,hrow⟩:=Z7 hB Ht (by omega) hv e1;obtain⟨A,W,pG,yu⟩:=Gq (d:=d2+p.length) (by omega) ho;have P9:=k1.boxes.perm (G':=(Fx++A)++W++[]) (by
  grind)
 obtain⟨hle,hB3⟩:=P9.share;simp only[AF5]at hB3
 generalize hE3:({ E1 with S:=fun c=>E1.S c∨c∈W,T:=fun c=>E1.T c∨c∈W }:Env)=E3 at hle hB3
 have bu:Le E E3:=k1.le.trans hle;have ho3:Ow w E3.S (d2+p.length) (.sl r) [E.FG b] rows A:=DK (fun c hc=>by
  subst hE3;exact hc.imp (k1.le.S c) id) (fun _ _=>rfl) (fun _ _=>rfl) yu
 obtain⟨h',F1,F2,m1,m2,m3,m4⟩:=aP ho3 hp hg (by omega);rw[g3]at m1;cases m1;obtain⟨m,rfl⟩:∃m,d2=m+1:=⟨d2-1,by omega⟩;rw[show m+1+p.length-p.length=m+1 by omega]at m2 m4;simp only[Nat.add_sub_cancel]at hrow;obtain⟨b1,o1,arr,ty,fr,cs,G,R,n1,n2,n3,n4,n5,n6,n7,n8,n9⟩:=fF m2 hi;simp only[AEY,Addr.mk.injEq,AHM]at n1;obtain⟨rfl,rfl⟩:=n1;subst KS;have hAp:A.Perm (G++(bb::R)++F2):=m3.trans (n8.append_right F2);obtain⟨Fs,hFs1,hFs2⟩:=hB3;have hbA:bb∈A:=hAp.mem_iff.2 (by simp);have S1: ¬E3.T bb:=hFs2.free bb (by simp[hbA]);have jP: ¬E3.S bb:=fun hc=>S1 (hFs2.st bb hc)
 have nd:(Fx++(G++(bb::R)++F2)).Nodup:=(AIP Fx hAp).nodup_iff.1 (AFX.1 hFs2.nodup).2.1;have hnx:bb∉Fx:=fun hc=>(AFX.1 nd).2.2 bb hc bb (by simp) rfl
 have hnG:bb∉G:=fun hc=>(AFX.1 (AFX.1 (AFX.1 nd).2.1).1).2.2 bb hc bb (by simp) rfl
 have hnR:bb∉R:=(AIS.1 (AFX.1 (AFX.1 (AFX.1 nd).2.1).1).2.1).1;have hn2:bb∉F2:=fun hc=>(AFX.1 (AFX.1 nd).2.1).2.2 bb (by simp) bb hc rfl
 have cO:j+v.cells.toList.length≤q.n:=by
  rcases hrow with⟨rfl,_,ho4⟩|⟨t,y,hc1,ho4,SI,_⟩
  ·rw[PJ ho4];omega
  ·rw[hc1]
   obtain⟨_,y0,zS⟩:=N2 SI;grind[UY,List.getElem?_eq_some_iff]
 have UD:o+i*q.n+j+v.cells.toList.length≤arr.size:=by omega
 let w':=w.setCells bb (o+i*q.n+j) v.cells.toList
 have Ud:∀c,c≠bb→w'.heap[c]? =w.heap[c]?:=fun c hc=>CX _ _ _ _ _ hc
 have dI:∀c,E3.S c→w'.heap[c]? =w.heap[c]?:=fun c hc=>Ud c (fun e=>jP (e▸hc))
 have nz:=D6 v.cells.toList (o+i*q.n+j) w bb arr ty fr n2;have RL:∃T5 G' D0,T5.length=q.n∧A_ w' bb (o+i*q.n) T5∧Ow w' E3.S m q T5 Rb G'∧(Fx++G).Perm (G'++D0):=by
  rcases hrow with⟨rfl,_,ho4⟩|⟨t,y,hc1,ho4,SI,_⟩
  ·refine⟨v.cells.toList,Fx,G,PJ ho4,J1 n2 UD,DK (fun c hc=>hle.S c hc) (fun c hc=>Ud c (fun e=>jP (e▸hle.S c hc))) (fun c hc=>Ud c (fun e=>hnx (e▸hc))) ho4,AI5 _⟩
  ·obtain⟨_,y0,zS⟩:=N2 SI
   obtain⟨u,K1,K2,z1,z2,z3,z4⟩:=UY n7 zS;have AFZ:bb∉K2:=fun hc=>hnG (z3.mem_iff.2 (by simp[hc]))
   obtain⟨F',f1,f2⟩:=z4 w' E3.S v y Fx Rb (fun _ hc=>hc) dI (fun c hc=>Ud c (fun e=>AFZ (e▸hc)))
    (DK (fun c hc=>hle.S c hc) (fun c hc=>Ud c (fun e=>jP (e▸hle.S c hc))) (fun c hc=>Ud c (fun e=>hnx (e▸hc))) ho4) SI
   refine⟨cs.set j v,F',K1,by simp_all,fun x u' hx=> ?_,f2,?_⟩
   ·rw[List.getElem?_set]at hx
    split at hx
    ·rename_i ejx
     subst ejx;split at hx
     ·cases hx
      have:=J1 (w:=w) (b:=bb) (o:=o+i*q.n+j) (vs:=v.cells.toList) n2 UD 0 v (by simp_all);omega
     simp_all
    ·rename_i ejx
     have hold:=n6 x u' hx;rw[HS n2]at hold;rw[HS nz,Og UD,AE4 (fun hh=>by grind),hold]
   grind
 obtain⟨T5,G',D0,c1,c2,c3,c4⟩:=RL;obtain⟨Zl,f1,f2⟩:=n9 w' E3.S (Du arr (o+i*q.n+j) v.cells.toList) T5 Rb G' (fun _ hc=>hc) dI (fun c hc=>Ud c (fun e=>hnR (e▸hc))) nz (D5 _ _ _) (fun k hk=>by
  rw[Og UD,AE4 (by omega)]) c1 c2 c3
 obtain⟨F',f3,f4⟩:=m4 w' E3.S (ys.set i Rb) Zl B6 (fun _ hc=>hc) dI (fun c hc=>Ud c (fun e=>hn2 (e▸hc))) f2 e2;have bA:(Fx++A).Perm (F'++D0):=by
  have p1:F'.Perm (G'++(bb::R)++F2):=f3.trans (f1.append_right F2);refine(AIP Fx hAp).trans (List.Perm.trans ?_ (p1.symm.append_right D0));grind
 have AJq:bb∈F':=(f3.trans (f1.append_right F2)).mem_iff.2 (by simp);have hB4:CD E3 w σ.bx Ry F':=by
  have:CD E3 w σ.bx Ry (F'++D0):=CD.perm (G:=Fx++A) ⟨Fs,hFs1,hFs2⟩ bA;exact this.drop
 have Z4:Ry.length=σ.bx.length:=by rw[k1.len];simp
 have AAL:Ry[b]? =some .dead:=by
  obtain⟨B,hB⟩:∃B,Ry[b]? =some B:=⟨_,AEX (by omega)⟩;rcases k1.within b B hB with e|e
  all_goals simp_all
 have hrl:B6.length=rows.length:=aI hg (by simp) e2;have kT:∀E0,Le E0 E3→Em E0 w σ.bx σ.bx [] E3 Ry (Fx++A):=fun E0 hl=>⟨hl,Z4,fun n B hn=>by
  rcases k1.within n B hn with e|e
  all_goals grind,⟨Fs,hFs1,by simp_all⟩⟩
 have ZO:∀n,E3.FG n=E.FG n:=fun n=>by rw[bu.FG]
 have hww:∀c,c<w.heap.size→c∉Fx++A→w'.heap[c]? =w.heap[c]?:=fun c _ hc=>Ud c (fun e=>hc (by simp_all))
 have base:T0 E w E3 w':=⟨bu.T,bu.S,bu.sx,bu.lM,fun c hc=>Ud c (fun e=>S1 (e▸bu.T c hc)),(BW _ _ _ _).os,(BW _ _ _ _).tape,(BW _ _ _ _).output,(BW _ _ _ _).size⟩;have finish:∀(f:AV→AV) (g:XV→XV),(∀E0,Le E0 E3→(∀c,E0.S c→E0.T c)→ ∀x v,VR E0 w σ.bx x v→VR E3 w' ((Ry.map (Bx.map f)).set b (.sl (m+1+p.length) r B6)) (f x) v)→
   (∀x v,XR E w σ.bx x v→XR E3 w' ((Ry.map (Bx.map f)).set b (.sl (m+1+p.length) r B6)) (g x) v)→
   Rel E3 { tm:=σ.tm.map g,bx:=(Ry.map (Bx.map f)).set b (.sl (m+1+p.length) r B6) } a w':=by
  intro f g hf hg;refine⟨h.JQ,Bh.H6 _ hg h.tm,?_⟩;have hT:=hB4.ADJ (E':=E3) (w':=w') (vw':=(Ry.map (Bx.map f)).set b (.sl (m+1+p.length) r B6)) f (hf E3 (Le.refl _) hFs2.st) (fun _ h=>h) (fun _ _=>rfl) (fun _ _=>rfl) (fun c hc _=>Ud c (fun e=>by
    simp_all)) (fun F hF=>⟨hF.nodup,hF.free,fun c hc=>by rw[Cf];exact hF.lt c hc,hF.st,fun c hc=>by rw[Cf];exact hF.TQ c hc⟩)
  refine CD.put (F:=F') (G:=[]) (by simp_all) (by rw[AG5,AAL];rfl) ⟨by omega,?_⟩;simp_all
 have zY:∀f:AV→AV,Lh [b] E σ.bx w E3 ((Ry.map (Bx.map f)).set b (.sl (m+1+p.length) r B6)) w':=fun f=>⟨base,by simp[Z4],fun n _=>⟨by rw[bu.FH],ZO n⟩,fun n hn=>by
  have cH:n≠b:=fun e=>by simp_all
  have jM:=(AEy.1 hn).1;rw[AHB (fun e=>cH e.symm),AG5];obtain⟨B,hB⟩:∃B,Ry[n]? =some B:=⟨_,AEX (by omega)⟩;have hBd:B= .dead:=by
   rcases(kT E bu).within n B hB with e|e
   all_goals simp_all
  rw[hB,hBd];rfl,fun n B B' cH hB NJ kF=>by
  simp at cH;have jM:=(AEy.1 hB).1;rw[AHB (fun e=>cH e.symm),AG5]at NJ;obtain⟨B2,P9⟩:∃B2,Ry[n]? =some B2:=⟨_,AEX (by omega)⟩;rw[P9]at NJ;have NJ:Bx.map f B2=B':=by simp_all
  have hBB:B2=B:=by
   rcases(kT E bu).within n B2 P9 with e|e
   ·subst e;exact absurd NJ.symm kF
   simp_all
  subst hBB;refine⟨?_,fun c hc=>Ud c (fun e=> ?_)⟩
  ·subst NJ
   cases B2 with
   |mem cs=>trivial
   |sl d r rows=>rfl
   |dead=>exact absurd rfl kF
  ·have hF:Fs[n]? =some (Fs[n]'(by have:=(AEy.1 P9).1;rw[hFs1.1];omega)):=AEX _
   have XM:jJ E3 w n B2 c:=by
    cases B2 with
    |mem cs=>simp only[jJ]at hc⊢;rw[bu.FH];omega
    |sl d r rows=>grind[jJ]
    |dead=>exact hc
   rcases Ua (hFs1.2 n B2 _ P9 hF) XM with hs|hs
   ·simp_all
   ·exact(AFX.1 hFs2.nodup).2.2 c (AHA.2 ⟨_,AGN hF,hs⟩) bb (by simp[hbA]) e⟩
 refine⟨bb,o+i*q.n+j,E3,rfl,Nj (k:=0) n2 UD n3,?_,?_,?_⟩
 ·split at e3
  ·rename_i AGi
   have h0:∀E0,Le E0 E3→(∀c,E0.S c→E0.T c)→Mb E0 w σ.bx E3 w' (Ry.set b (.sl (m+1+p.length) r B6)):=by
    intro E0 hl st0;refine SA b (kT E0 hl) st0 (by simp[Z4]) (fun n d r rows hn _ hq=>by
      grind) (fun _ _=>rfl) (fun _ _=>rfl) rfl rfl hww (fun d0 r0 MJ hq=> ?_)
    rw[AHY (by omega)]at hq;simp only[AEY,Bx.sl.injEq]at hq;obtain⟨rfl,rfl,hq⟩:=hq;obtain rfl:=AGy hq;refine⟨d,rows,hb,fun p' vW q' zs gp=> ?_⟩;rcases hrow with⟨_,hpf,_⟩|⟨t,y,hc1,ho4,SI,zK⟩
    ·simp_all
    obtain⟨mV,wO⟩:=zK AGi;have hk:=Yt mV hp hg hi SI e2 vW q' zs gp;refine⟨hk.1,hk.2,fun hh hhe=> ?_⟩;rw[ZO];rw[←hl.FG,ZO]at hhe;refine dx (fun Ad=> ?_) (P4 f4) hk.1 hhe;by_cases eA:Ad.block=bb∧Ad.spot=none∧Ad.off=o+i*q.n+j
    ·right
     obtain⟨ab,ao,asp⟩:=Ad;simp only at eA;rw[eA.1,eA.2.1,eA.2.2];refine⟨v,?_,wO⟩;have:=J1 (w:=w) (b:=bb) (o:=o+i*q.n+j) (vs:=v.cells.toList) n2 UD 0 v (by simp_all);omega
    grind[World.cell?_setCells_out,List.length_cons,List.length_nil]
   have:=finish id id (fun E0 hl st0 x v hx=>by rw[RS];grind[EN]) (fun x v hx=>by rw[RS];grind[KB]);grind[RS,List.map_id]
  ·have h0:∀E0,Le E0 E3→(∀c,E0.S c→E0.T c)→ ∀x v,VR E0 w σ.bx x v→VR E3 w' ((Ry.map (Bx.map (Ga b))).set b (.sl (m+1+p.length) r B6)) (Ga b x) v:=by
    intro E0 hl st0 x v hx;have keep:Mb E0 w σ.bx E3 w' (((Ry.map (Bx.map (Ga b))).set b (.sl (m+1+p.length) r B6)).set b .dead):=by
     refine SA b (kT E0 hl) st0 (by simp[Z4]) (fun n d r rows hn _ hq=>by
      grind[List.getElem?_set_ne,o9]) (fun _ _=>rfl) (fun _ _=>rfl) rfl rfl hww (fun d0 r0 MJ hq=> ?_)
     simp_all
    exact o_ keep hb (by rw[AHY (by simp_all)]) hrl (by rw[hl.FG]) hx
   have:=finish (Ga b) (ec b) h0 (fun x v hx=>qH (h0 E bu st) hx);grind[St.lL,Yj,bt]
 ·rw[←e3]
  split
  all_goals grind[id,RS,St.lL,Yj,bt]
 grind[St.lL]
end Go.Fw
end
section
namespace Go.Fw
theorem US{w w':World}{B B':Nat→Prop}:∀{r:Ty} {cs:List Value} {x:r.D},r.flat=true→Rd w B r cs x→Rd w' B' r cs x
 | .cons c r,cs,x,h,hr=>by
  simp only[Ty.flat,AE1]at h;simp only[Rd]at hr⊢;obtain⟨v,l,rfl,h1,h2⟩:=hr;exact⟨v,l,rfl,US h.1 h1,US h.2 h2⟩
 | .unit,_,_,_,hr=>by grind[Rd]
 | .int k,_,_,_,hr=>by grind[Rd]
 | .bool,_,_,_,hr=>by grind[Rd]
 | .str,_,_,_,hr=>by grind[Rd]
 | .sl q,_,_,h,_=>by simp[Ty.flat]at h
theorem T9{w:World}{S:Nat→Prop}{d:Nat}:∀{r:Ty} {cs:List Value} {y:r.D} {F:AAO},r.flat=true→Ow w S d r cs y F→F=[]
 | .int k,_,_,_,_,h=>by grind[Ow]
 | .bool,_,_,_,_,h=>by grind[Ow]
 | .str,_,_,_,_,h=>by grind[Ow]
 | .unit,_,_,_,_,h=>by grind[Ow]
 | .cons c r,_,_,_,hf,h=>by
  simp only[Ty.flat,AE1]at hf;simp only[Ow]at h;obtain⟨v,l,F1,F2,_,rfl,h1,h2⟩:=h;rw[T9 hf.1 h1,T9 hf.2 h2];rfl
 | .sl q,_,_,_,hf,_=>by simp[Ty.flat]at hf
theorem jG{w w':World}{S S':Nat→Prop}{d d':Nat}{r:Ty}(hr:r.flat=true){cs:List Value}{y:r.D}{F:AAO}(h:Ow w S d r cs y F):F=[]∧cs.length=r.n∧Ow w' S' d' r cs y []:=
 ⟨T9 hr h,PJ h,W0 hr (US (B':=fun _=>False) hr (P4 h))⟩
theorem WV:∀{r:Ty} {j:Nat} {x:r.D} {t:Ty} {y:t.D},r.flat=true→Az r j x=some ⟨t,y⟩→t.flat=true
 | .cons c r,0,x,t,y,h,e=>by
  simp only[Ty.flat,AE1]at h;simp only[Az,AEY,AFU]at e;simp_all
 | .cons c r,j+1,x,t,y,h,e=>by
  simp only[Ty.flat,AE1]at h;simp only[Az]at e;exact WV h.2 e
 | .unit,_,_,_,_,_,e=>by simp[Az]at e
 | .int k,0,x,t,y,_,e=>by simp only[Az,AEY,AFU]at e;simp_all
 | .bool,0,x,t,y,_,e=>by simp only[Az,AEY,AFU]at e;simp_all
 | .str,0,x,t,y,_,e=>by simp only[Az,AEY,AFU]at e;simp_all
 | .sl _,_,_,_,_,h,_=>by simp[Ty.flat]at h
 | .int _,_+1,_,_,_,_,e=>by simp[Az]at e
 | .bool,_+1,_,_,_,_,e=>by simp[Az]at e
 | .str,_+1,_,_,_,_,e=>by simp[Az]at e
theorem mP{r:Ty}(hr:r.flat=true){rows:List r.D}:∀{p:List O7},CK r rows p→p=[]
 |[],_=>rfl
 |s::p,h=>by
  simp only[CK]at h;obtain⟨_,_,h⟩:=h;exfalso;cases hc:Az r s.j (rowAt r rows s.i)with
  |none=>simp_all
  |some tx=>
   obtain⟨t,x⟩:=tx;have hf:=WV hr hc;grind[Ty.flat]
theorem flatten_nil{l:List AAO}(h:∀x∈l,x=[]):l.flatten=[]:=by
 simp_all;omega
theorem mE{E:Env}{σ:St}{a:Act}{w:World}(h:Rel E σ a w){b d off n:Nat}{r:Ty}{rows:List r.D}(hb:σ.bx[b]? =some (.sl d r rows))(hr:r.flat=true)(hgd:r.fg=true)(hk:0<r.n)(hl:off+n≤rows.length)(hn:0<n):
  ∃bb o cap,E.FG b= .slice (some ⟨bb,o,none⟩) rows.length cap∧rows.length≤cap∧w.there bb (o+off*r.n) (n*r.n)∧
   Rel E { σ with bx:=σ.bx.set b (.sl d r ((rows.take off++List.replicate n r.z)++rows.drop (off+n))) } a (w.setCells bb (o+off*r.n) (List.replicate n (DZ r)).flatten)∧
   Lh [b] E σ.bx w E (σ.bx.set b (.sl d r ((rows.take off++List.replicate n r.z)++rows.drop (off+n)))) (w.setCells bb (o+off*r.n) (List.replicate n (DZ r)).flatten):=by
 have st:=h.bx.st;obtain⟨F,⟨hd,ho⟩,hB⟩:=h.bx.take hb;simp only[AF5]at hB;have IV:=(AEy.1 hb).1;obtain⟨d',rfl⟩:∃m,d=m+1:=⟨d-1,by omega⟩;simp only[Ow]at ho;obtain⟨ad,cap,hh,kQ,ho⟩:=ho;simp only[AGv,AHM]at hh;rcases ho with⟨rfl,_⟩|⟨bb,o,arr,ty,fr,Fs,rfl,ha,KS,hu,rfl,hFl,S3⟩
 ·omega
 have hFn:List.flatten Fs=[]:=flatten_nil fun x hx=>by
  obtain⟨i,hi,hxi⟩:=AHD hx;obtain⟨cs,_,_,h3⟩:=S3 i (rows[i]'(by omega)) x (AEX _) (by grind);exact(jG (w':=w) (S':=E.S) (d':=0) hr h3).1
 rw[hFn]at hB;have ri:(DZ r).length=r.n:=Ed r;have wi:((List.replicate n (DZ r)).flatten).length=n*r.n:=by simp_all
 have ru:(off+n)*r.n≤cap*r.n:=AGS _ (by omega);have hm2:(off+n)*r.n=off*r.n+n*r.n:=AHi ..;have UD:o+off*r.n+((List.replicate n (DZ r)).flatten).length≤arr.size:=by omega
 generalize Nx:(List.replicate n (DZ r)).flatten=vs at wi UD
 refine⟨bb,o,cap,hh,kQ,Nj ha (by omega) hu,?_⟩;have S1: ¬E.T bb:=hB.re _ (by simp);have hB0:=hB;have Ud:∀c,c≠bb→(w.setCells bb (o+off*r.n) vs).heap[c]? =w.heap[c]?:=fun c hc=>CX _ _ _ _ _ hc
 have hw:∀c,c<w.heap.size→c∉[bb]→(w.setCells bb (o+off*r.n) vs).heap[c]? =w.heap[c]?:=fun c _ hc=>Ud c (by simp_all)
 have kT:Em E w σ.bx σ.bx [] E (σ.bx.set b .dead) [bb]:=⟨Le.refl _,by simp,fun n B hn=>by
  grind,by simp_all⟩
 generalize yr:(rows.take off++List.replicate n r.z)++rows.drop (off+n)=B6
 have AAi:B6.length=rows.length:=by
  grind
 have keep:Mb E w σ.bx E (w.setCells bb (o+off*r.n) vs) (σ.bx.set b (.sl (d'+1) r B6)):=SA b kT st (by simp) (fun n d r rows hn _ hq=>by
   grind) (fun _ _=>rfl) (fun _ _=>rfl) rfl rfl hw (fun d1 r1 vi hq=>by
   rw[AHY IV]at hq;simp only[AEY,Bx.sl.injEq]at hq;obtain⟨rfl,rfl,hq⟩:=hq;obtain rfl:=AGy hq;refine⟨d'+1,rows,hb,fun p hp q ys hg=> ?_⟩;obtain rfl:=mP hr hp;simp only[Eh,AEY,AFU]at hg;obtain⟨rfl,hg⟩:=hg;obtain rfl:=AGy hg;exact⟨by simp[CK],⟨B6,by rfl,AAi⟩,fun h' hh' =>hh'⟩)
 refine⟨⟨h.JQ,h.tm.imp fun _ _ hq=>KB keep hq,?_⟩,⟨⟨fun _ h=>h,fun _ h=>h,fun _ h=> .inl h,fun _ h=> .inl h,fun c hc=>Ud c (fun e=>S1 (e▸hc)),(BW _ _ _ _).os,(BW _ _ _ _).tape,(BW _ _ _ _).output,(BW _ _ _ _).size⟩,by simp,fun _ _=>⟨rfl,rfl⟩,fun n hn=>by
  grind,fun n B B' cH hB NJ kF=>by
  simp at cH;rw[AHB (fun e=>cH e.symm),hB]at NJ;cases NJ;refine⟨OI.refl kF,fun c hc=>Ud c (fun e=> ?_)⟩;obtain⟨Fs,⟨f1,f2⟩,f3⟩:=hB0;have P9:(σ.bx.set b .dead)[n]? =some B:=by grind
  have hF:Fs[n]? =some (Fs[n]'(by grind)):=AEX _;rcases Ua (f2 n B _ P9 hF) hc with hs|hs
  ·simp_all
  ·exact(AFX.1 f3.nodup).2.2 c (AHA.2 ⟨_,AGN hF,hs⟩) bb (by simp) e⟩⟩
 have hT:=hB.turn (E':=E) (w':=w.setCells bb (o+off*r.n) vs) (vw':=σ.bx.set b (.sl (d'+1) r B6)) (fun x v hq=>EN keep hq) (fun _ h=>h) (fun _ _=>rfl) (fun _ _=>rfl) (fun c hc _=>Ud c (fun e=>by
   simp_all)) (fun F hF=>⟨hF.nodup,hF.free,fun c hc=>by rw[Cf];exact hF.lt c hc,hF.st,fun c hc=>by rw[Cf];exact hF.TQ c hc⟩)
 have qY:bE E (w.setCells bb (o+off*r.n) vs) (σ.bx.set b (.sl (d'+1) r B6)) b (.sl (d'+1) r B6) [bb]:=by
  refine⟨hd,?_⟩;simp only[Ow];refine⟨_,cap,by simp_all,by omega,.inr ⟨bb,o,Du arr (o+off*r.n) vs,ty,fr,List.replicate B6.length [],rfl,D6 _ _ _ _ _ _ _ ha,by rw[D5];omega,by rw[D5];omega,by simp,by simp,fun i y G hy hG=> ?_⟩⟩;have hG':G=[]:=AHP (AGN hG);subst hG';have hil:i<rows.length:=by grind
  by_cases Sg:off≤i∧i<off+n
  ·have hyz:y=r.z:=by
    grind
   subst hyz;refine⟨DZ r,ri,fun j v hj=> ?_,Uh hgd⟩;have lr:j<r.n:=by grind
   have e1:(i-off)*r.n=i*r.n-off*r.n:=AID ..;have e2:off*r.n≤i*r.n:=AGS _ Sg.1;have e3:(i-off+1)*r.n≤n*r.n:=AGS _ (by omega);rw[AHi,Nat.one_mul]at e3;have:=J1 ha UD ((i-off)*r.n+j) v (by
    grind[JC,Nat.mul_comm,Nat.mul_add_mod,Nat.mod_eq_of_lt])
   grind
  ·have hyo:rows[i]? =some y:=by
    rw[←yr]at hy;by_cases h1:i<off
    ·grind
    grind[List.getElem?_append_right]
   obtain⟨cs,c1,c2,c3⟩:=S3 i y (Fs[i]'(by omega)) hyo (AEX _);obtain⟨_,c4,c5⟩:=jG (w':=w.setCells bb (o+off*r.n) vs) (S':=E.S) (d':=d') hr c3;refine⟨cs,c4,NY c2 ha UD (.inr ?_),c5⟩;by_cases h1:i<off
   ·have:(i+1)*r.n≤off*r.n:=AGS _ h1
    grind
   grind
 have:=CD.put (b:=b) (B:= .sl (d'+1) r B6) (F:=[bb]) (G:=[]) (by simpa using hT) (by simp_all) qY;simp_all
section
variable{Y:Type} {P:Program} {T:GH} (hT:DO P T) {o:Oper} {E:Env} {σ:St} {a:Act} {w:World} {k:K Y} {y:Y}
include hT
theorem ja(h:Rel E σ a w){c:Call}{x:XV}(ho:o.op= .call c)(hc:c.callee= .builtin .clear)(Ff:c.args.toList.map σ.ev=[x])(e:X0 T c.argTypes σ x k=some y)
  (AF6:∀b p off n,x= .c (.win b p off n)→HC (fun _=>none) σ o.op=[b]):∃v w' E' xv σ',((execOp a.eval o).run P w= .ok (.value v) w'∨((execOp a.eval o).run P w= .ok .skip w'∧v=undef))∧Rel E' σ' a w'∧XR E' w' σ'.bx xv v∧
   Lh (HC (fun _=>none) σ o.op) E σ.bx w E' σ'.bx w'∧σ'.tm.length=σ.tm.length∧k xv σ' =some y:=by
 obtain⟨o1,hargs',rfl⟩:=P2 Ff;have Rz:=h.ev o1;unfold X0 at e;split at e
 case h_2=>cases e
 rename_i t b off n ht hx;rw[hx]at Rz;rw[AF6 b [] off n hx];split at e
 case h_2=>cases e
 rename_i d r rows hb;split at e
 case isFalse=>cases e
 rename_i RJ;rw[AE1]at RJ;obtain⟨RJ,hr⟩:=RJ;rw[AE1,AFS]at hr;obtain⟨hr,hk⟩:=hr;obtain⟨el,ti,hu,N3,hs,pe,hrow⟩:=G6 hT RJ;obtain⟨i,z,i1,i2,i3,i4,i5,hg⟩:=PD hT N3 hrow;have RQ:VR E w σ.bx (.win b [] off n) (a.eval o1):=Rz;simp only[VR,hb]at RQ;obtain⟨_,_,q,ys,ad,len,cap,yv,hl,hh,hv⟩:=RQ;simp only[Eh,AEY,AFU]at yv;obtain⟨rfl,yv⟩:=yv;obtain rfl:=AGy yv;simp only[F4,AEY]at hh;by_cases hn:n=0
 ·subst hn
  have ACI:(rows.take off++List.replicate 0 r.z)++rows.drop (off+0)=rows:=by simp
  rw[ACI]at e;have SI:σ.bx.set b (.sl d r rows)=σ.bx:=by
   apply AH_;grind
  rw[SI]at e;refine⟨.tuple #[],w,E,.c .undef,σ,.inl ?_,h,trivial,Lh.refl _ _ _ _,rfl,e⟩;have hz:∃a' c',a.eval o1= .slice a' 0 c':=⟨_,_,by rw[hv];rfl⟩;obtain⟨a',c',hz⟩:=hz;simp only[execOp,ho,resolve,hc,hargs',invoke,builtin,Sem.run_bind,Sem.run_pure,Result.andThen_ok,List.map_toArray,AHb,AIA,Builtin.clear_,ht,hz];cases a'<;>simp[A9 hu]
 ·obtain⟨bb,oo,cap',g1,g2,g3,g4,g5⟩:=mE h (d:=d) hb hr hg hk hl (by omega)
  rw[g1]at hh;simp only[Value.slice.injEq]at hh;obtain⟨rfl,rfl,rfl⟩:=hh;have Qq:a.eval o1= .slice (some ⟨bb,oo+off*r.n,none⟩) n (cap'-off):=by
   rw[hv];unfold OE;rw[AE4 (by omega)];simp[Addr.add]
  refine⟨.tuple #[],_,E,.c .undef,_,.inl ?_,g4,trivial,g5,rfl,e⟩;have hz:(Builtin.zeroCells z.cells n).toList=(List.replicate n (DZ r)).flatten:=by
   grind[Builtin.zeroCells,DZ,O0,Ed]
  have h1:∀v∈(List.replicate n (DZ r)).flatten,v.oneCell' =true:=fun v hv=>by
   obtain⟨l,hl1,qe⟩:=AHA.1 hv;rw[AHP hl1]at qe;exact XY (w:=w) (S:=E.S) (d:=0) (Uh hg) v qe
  have wi:((List.replicate n (DZ r)).flatten).length=n*r.n:=by rw[El,Ed]
  have cN:=run_storeCells_cells (P:=P) bb (oo+off*r.n) (List.replicate n (DZ r)).flatten 0 w (fun j hj=>by simpa using(g3 j (by omega)).1) (fun j hj=>by simpa using(g3 j (by omega)).2) h1;rw[AHz]at cN;obtain⟨n',rfl⟩:∃n',n=n'+1:=⟨n-1,by omega⟩;simp only[execOp,ho,resolve,hc,hargs',invoke,builtin,Sem.run_bind,Sem.run_pure,Result.andThen_ok,List.map_toArray,AHb,AIA,Builtin.clear_,ht,Qq];simp[A9 hu,zeroValue,typeInfo,i1,i4,hz,cN]
end
end Go.Fw
end
section
namespace Go.Fw
theorem af{E:Env}{w:World}{vw:List Bx}:∀{l:List XV} {bs:AAO} {vs:List Value},gw l=some bs→Bh (XR E w vw) l vs→(∀b∈bs,b<vw.length)∧vs=bs.map fun b=>Value.pointer (some ⟨E.FH b,0,none⟩)
 |[],bs,vs,e,h=>by
  simp only[gw,AEY]at e;subst e;cases vs with
  |nil=>simp_all
  |cons _ _=>exact h.elim
 |x::l,bs,vs,e,h=>by
  unfold gw at e;split at e
  ·simp_all
  ·rename_i b l' heq
   cases heq;simp only[AEx]at e;obtain⟨r,e1,rfl⟩:=e;cases vs with
   |nil=>exact h.elim
   |cons v vs=>
    obtain⟨h1,h2⟩:=h;obtain⟨k1,k2⟩:=af e1 h2;obtain⟨h3,h4⟩:b<vw.length∧v= .pointer (some ⟨E.FH b,0,none⟩):=h1;simp_all
  simp_all
theorem N_{E:Env}{σ:St}{a:Act}{w:World}(h:Rel E σ a w):∀l:List Operand,Bh (XR E w σ.bx) (l.map σ.ev) (l.map a.eval)
 |[]=>trivial
 |x::l=>⟨h.ev x,N_ h l⟩
theorem lE{E:Env}{σ:St}{a:Act}{w:World}(h:Rel E σ a w):∀o:Option Operand,OR E w σ.bx (o.map σ.ev) (o.map a.eval)
 |none=>trivial
 |some x=>h.ev x
theorem iV{w:World}{S:Nat→Prop}:∀{p:List O7} {d:Nat} {r:Ty} {h:Value} {rows:List r.D} {F:AAO} {q:Ty} {ys:List q.D} {v:Value},Ow w S d (.sl r) [h] rows F→CK r rows p→
  Eh r rows p=some ⟨q,ys⟩→d≤p.length→F4 w h p=some v→Rd w S (.sl q) [v] ys
 |p,0,r,h,rows,F,q,ys,v,ho,hp,hg,_,hv=>by
  simp only[Ow]at ho;obtain⟨h',k,hr⟩:=Zp ho.1 hp hg;simp_all
 |[],d+1,r,h,rows,F,q,ys,v,ho,hp,hg,hd,hv=>by simp_all
 |s::p,d+1,r,h,rows,F,q,ys,v,ho,hp,hg,hd,hv=>by
  simp only[CK]at hp;obtain⟨hi,KS,hp⟩:=hp;simp only[Eh]at hg;obtain⟨a,len,cap,rfl⟩:∃a len cap,h= .slice a len cap:=by
   have:=ho;simp only[Ow]at this;grind
  split at hg
  case h_2=>cases hg
  rename_i q' x' Vj;rw[Vj]at hp;obtain⟨b,o,arr,ty,fr,cs,G,R,rfl,hb,hu,hbd,c1,c2,c3,bA,hback⟩:=fF ho hi;obtain⟨u,A1,A2,k1,k2,k3,k4⟩:=UY c3 Vj;simp only[F4]at hv;rw[KS,c2 _ _ k1]at hv;exact iV k2 hp hg (by simp_all) hv
theorem jl{E:Env}{σ:St}{a:Act}{w:World}(h:Rel E σ a w){b i sz j:Nat}{p:List O7}{va v:Value}(wA:VR E w σ.bx (.GZ b p i sz j) va){x:XV}(hv:XR E w σ.bx x v)(o0:∀u∈v.cells.toList,u.oneCell' =true)
  {σ':St} (e:LJ σ (.c (.GZ b p i sz j)) x=some σ'):
  ∃bb oo E',va= .pointer (some ⟨bb,oo,none⟩)∧w.there bb oo v.cells.toList.length∧Rel E' σ' a (w.setCells bb oo v.cells.toList)∧Lh [b] E σ.bx w E' σ'.bx (w.setCells bb oo v.cells.toList)∧σ'.tm.length=σ.tm.length:=by
 unfold LJ Ro at e;split at e
 ·rename_i b0 _ _ _ _ b' s p' off n heq
  cases heq;split at e
  case isFalse=>cases e
  rename_i uZ;subst uZ;split at e
  case h_2=>cases e
  rename_i d r rows hb;simp only[AEz,AEx]at e;obtain⟨q,⟨⟨q0,ys⟩,hg,rfl⟩,e⟩:=e;dsimp only at e;have IV:=(AEy.1 hb).1;obtain⟨F,⟨hd1,ho⟩,hB⟩:=h.bx.take hb;obtain⟨A,W,pF,yu⟩:=Gq (d:=min d (p'.length+1)) (by omega) ho;have P9:=hB.perm (G':=A++W++[]) (by simp_all);obtain⟨hle,hB3⟩:=P9.share
  generalize hE1:({ E with S:=fun c=>E.S c∨c∈W,T:=fun c=>E.T c∨c∈W }:Env)=E1 at hle hB3
  have ho3:Ow w E1.S (min d (p'.length+1)) (.sl r) [E1.FG b'] rows A:=by
   rw[hle.FG];grind
  have hB4:=hB3.put (b:=b') (B:= .sl (min d (p'.length+1)) r rows) (by simp_all) ⟨by omega,ho3⟩;rw[List.set_set]at hB4;have hk:Mb E w σ.bx E1 w (σ.bx.set b' (.sl (min d (p'.length+1)) r rows)):=by
   refine⟨by simp,fun _ _=>by rw[hle.FH],hle.T,hle.S,h.bx.st,fun _ _=>rfl,fun c d' r' B6 hc e=> ?_⟩;by_cases yw:b' =c
   ·subst yw
    rw[AHY IV]at e;simp only[AEY,Bx.sl.injEq]at e;obtain⟨rfl,rfl,e⟩:=e;obtain rfl:=AGy e;exact⟨d,rows,hb,fun p hp q ys hg=>⟨hp,⟨ys,hg,rfl⟩,fun h' hh=>by rw[hle.FG];omega⟩⟩
   ·rw[AHB yw]at e
    exact⟨d',B6,e,fun p hp q ys hg=>⟨hp,⟨ys,hg,rfl⟩,fun h' hh=>by rw[hle.FG];omega⟩⟩
  have Rz:VR E w σ.bx (.win b' (s::p') off n) v:=hv;have RQ:XR E1 w (σ.bx.set b' (.sl (min d (p'.length+1)) r rows)) (.c (.sl true q0 ((ys.drop off).take n))) v:=by
   simp only[VR,hb]at Rz;obtain⟨_,hp,q1,ys1,a1,len,cap,g1,g2,g3,rfl⟩:=Rz;rw[hg]at g1;simp only[AEY,AFU]at g1;obtain⟨rfl,g1⟩:=g1;obtain rfl:=AGy g1;have:=iV ho3 hp hg (by grind) (by rw[hle.FG];omega);exact kt this g2
  have hr:Rel E1 { σ with bx:=σ.bx.set b' (.sl (min d (p'.length+1)) r rows) } a w:=
   ⟨h.JQ,h.tm.imp fun _ _ hx=>KB hk hx,hB4.turn (E':=E1) (w':=w) (fun _ _ hv=>EN ⟨by simp,fun _ _=>rfl,fun _ h=>h,fun _ h=>h,hB3.st,fun _ _=>rfl,fun c d' r' B6 hc e=>by
    grind⟩ hv) (fun _ h=>h) (fun _ _=>rfl) (fun _ _=>rfl) (fun _ _ _=>rfl) fun F hF=>hF⟩
  obtain⟨bb,oo,E',q1,q2,q3,q4,q5⟩:=eR hr (EN hk wA) RQ o0 e;refine⟨bb,oo,E',q1,q2,q3,⟨(hle.base w).trans q4.base,by simpa using q4.len,fun c hc=> ?_,fun c hc=> ?_,fun c B B' hct hB NJ hd=> ?_⟩,q5⟩
  ·have:=q4.ids c (by simp_all)
   exact⟨this.1.trans (by rw[hle.FH]),this.2.trans (by rw[hle.FG])⟩
  ·refine q4.dead c ?_
   grind
  ·have yw:b'≠c:=fun e=>hct (by simp[e])
   obtain⟨f1,f2⟩:=q4.frame c B B' hct (by simp_all) NJ hd;refine⟨f1,fun c' XM=>f2 c' ?_⟩;cases B with
   |mem cs=>exact XM.trans (by rw[hle.FH])
   |sl d0 r0 MJ=>simp only[jJ]at XM⊢;rw[hle.FG];omega
   |dead=>exact XM
 grind[eR]
def bj:Op→Bool
 | .call { callee:= .value _,.. }=>true
 |_=>false
section
variable{Y:Type} {P:Program} {T:GH} (hT:DO P T) {o:Oper} {E:Env} {σ:St} {a:Act} {w:World} {k:K Y} {y:Y}
include hT
theorem kE(h:Rel E σ a w){t:TypeId}{oa ox:Operand}(ho:o.op= .store t oa ox){ti:TI}(N3:T.get t=some ti)
  (hc:(σ.ev ox).cells.length=ti.size∧ti.size≠0∧(σ.ev ox).cells.all AV.known=true) {σ':St} (hs:LJ σ (σ.ev oa) (σ.ev ox)=some σ') (e:k (.c .undef) σ' =some y):Hr P o E σ a w k y:=by
 obtain⟨c1,c2,c3⟩:=hc;have UZ:(σ.ev ox).cells≠[]:=fun hh=>by simp_all
 obtain⟨Nx,o0⟩:=bR (h.ev ox) c3 UZ;have hlen:(a.eval ox).cells.toList.length=ti.size:=by rw[←Bh.len Nx];omega
 have hi:(P.info? t).map (·.size)=some (a.eval ox).cells.toList.length:=by grind[DO.size]
 have wA:=h.ev oa;have fin:∀{bb oo:Nat} {E':Env},a.eval oa= .pointer (some ⟨bb,oo,none⟩)→w.there bb oo (a.eval ox).cells.toList.length→Rel E' σ' a (w.setCells bb oo (a.eval ox).cells.toList)→
   Lh (HC (fun _=>none) σ o.op) E σ.bx w E' σ'.bx (w.setCells bb oo (a.eval ox).cells.toList)→σ'.tm.length=σ.tm.length→Hr P o E σ a w k y:=by
  intro bb oo E' e1 e2 e3 e4 e5;have hr:=ZL (P:=P) e2 hi o0;refine⟨undef,_,E',.c .undef,σ',.inr ⟨?_,rfl⟩,e3,trivial,e4,e5,e⟩;grind[execOp,Sem.run_bind,Result.andThen_ok,Sem.run_pure]
 generalize hxa:σ.ev oa=xa at hs wA
 cases xa with
 |agg l=>simp[LJ,Ro,Vg]at hs
 |KK l=>simp[LJ,Ro,Vg]at hs
 |c x=>
  cases x with
  |Fg b j=>
   simp only[LJ,Ro,AE9,Vg]at hs;split at hs
   case h_2=>cases hs
   rename_i cs hb;simp only[AEx]at hs;obtain⟨T5,hs,rfl⟩:=hs;have AFA:b<σ.bx.length∧a.eval oa= .pointer (some ⟨E.FH b,j,none⟩):=wA;obtain⟨q1,q2,q3⟩:=mD h hb Nx UZ hs;exact fin AFA.2 q1 q2 (by grind[HC]) rfl
  |GZ b p i sz j=>
   obtain⟨bb,oo,E',q1,q2,q3,q4,q5⟩:=jl h wA (h.ev ox) o0 hs;grind[HC]
  |_=>simp[LJ,Ro,Vg]at hs
omit hT in
theorem gh(h:Rel E σ a w){x:Operand}(ho:o.op= .assign x)(e:SU σ (σ.ev x) k=some y):Hr P o E σ a w k y:=by
 have hr:(execOp a.eval o).run P w= .ok (.value (a.eval x)) w:=by simp only[execOp,ho,Sem.run_pure]
 have hv:=h.ev x;unfold SU at e;split at e
 ·rename_i b off n hx
  rw[hx]at hv;simp only[AEz]at e;obtain⟨⟨r,rows,bx,d⟩,e1,e⟩:=e;dsimp only at e;have Qq:VR E w σ.bx (.win b [] off n) (a.eval x):=hv;obtain⟨hd,F1,F2,k1,ho1⟩:=U7 h.bx (Dx.refl _) Qq e1;obtain⟨Fs0,hB1,P9⟩:=k1.boxes;simp only[AF5]at P9;have nd:=(AFX.1 (AFX.1 P9.nodup).2.1).1;obtain⟨r1,r2,r3⟩:=ND h k1 (w':=w) hd ho1 (fun c hc=> .inl (AGf.2 (.inl hc))) nd (fun c hc=>P9.lt c (by simp[hc])) (fun _ _ _=>rfl) ⟨rfl,rfl,rfl,AGh _⟩;exact⟨_,_,_,_,_,.inl hr,r1,r3,r2.any,rfl,e⟩
 ·exact Hr.same h hr hv e
theorem nK{Γ:Nat→Option Ma}(h:Rel E σ a w)(e:PF T Γ o σ k=some y)(eU:bj o.op=false):Hr P o E σ a w k y:=by
 have same:∀{v:Value} {x:XV},(execOp a.eval o).run P w= .ok (.value v) w→XR E w σ.bx x v→k x σ=some y→Hr P o E σ a w k y:=fun h1 h2 h3=>Hr.same h h1 h2 h3
 obtain⟨Fs,hB,hS⟩:=h.bx;have st:=hS.st;unfold PF at e;split at e
 ·rename_i x ho
  exact same (v:=a.eval x) (by grind[execOp,Sem.run_pure]) (h.ev x) e
 ·grind[gh]
 ·rename_i c xa xb ho
  split at e
  case h_2=>cases e
  rename_i p hp;have hc:=h.ev c;rw[hp]at hc;have XM:=MU (E:=E) (w:=w) (vw:=σ.bx) hc;refine same (v:=if p then a.eval xa else a.eval xb) (x:=if p then σ.ev xa else σ.ev xb) (by simp[execOp,ho,XM,asBool]) (by cases p<;>simp[h.ev]) ?_
  grind[oU]
 ·grind[kU]
 ·grind[pH]
 ·grind[jk]
 ·grind[ZD]
 ·rename_i t x ho
  split at e
  case h_2=>cases e
  rename_i z hz;obtain⟨u,h1,h2⟩:=g_ hT hB st hz (h.ev x);grind[execOp,Sem.run_bind,Result.andThen_ok,Sem.run_pure]
 ·grind[kE]
 ·rename_i x ho
  have hx:=h.ev x;split at e
  ·rename_i b j hp
   rw[hp]at hx;have l_:b<σ.bx.length∧a.eval x= .pointer (some ⟨E.FH b,j,none⟩):=hx;grind[execOp,Sem.run_pure]
  ·rename_i b p i sz j hp
   rw[hp]at hx;have hpt:TB (a.eval x)=true:=hx.1;grind[TB,execOp,Sem.run_pure]
  ·rename_i s r z j hp
   rw[hp]at hx;obtain⟨bb,oo,cs,hv,hrest⟩:=hx;exact same (v:=a.eval x) (x:= .c (.KU s r z j)) (by grind[execOp,Sem.run_pure]) ⟨bb,oo,cs,hv,hrest⟩ e
  ·rename_i f HI hp
   rw[hp]at hx;have l_:(∀b∈HI,b<σ.bx.length)∧a.eval x= .func (.func f) #[] (HI.map fun b=>Value.pointer (some ⟨E.FH b,0,none⟩)).toArray:=hx;grind[execOp,Sem.run_pure]
  simp_all
 ·rename_i op t x z s ho
  obtain⟨r,val,h1,h2,h3⟩:=V4 hT e (h.ev x) (h.ev z) x z;exact same (v:=val) (x:= .c r) (by
   simp only[execOp,ho,Sem.run_bind];simp_all) h3 h1
 ·rename_i op t x ho
  obtain⟨r,val,h1,h2,h3⟩:=Xi (P:=P) e (h.ev x);exact same (v:=val) (x:= .c r) (by grind[execOp,Sem.run_bind,Result.andThen_ok,Sem.run_pure]) h3 h1
 ·grind[mB]
 ·rename_i f first HI ho
  split at e
  case isFalse=>cases e
  rename_i hf;split at e
  case h_2=>cases e
  rename_i bs hbs;obtain⟨q1,q2⟩:=af hbs (N_ h HI.toList);have AF1:first.map a.eval= #[]:=by
   simp_all
  have AHf:HI.map a.eval=(bs.map fun b=>Value.pointer (some ⟨E.FH b,0,none⟩)).toArray:=by
   grind
  refine same (v:= .func (.func f) #[] (bs.map fun b=>Value.pointer (some ⟨E.FH b,0,none⟩)).toArray) ?_ (x:= .c (.fn f bs)) ⟨q1,rfl⟩ e
  grind[execOp,Instr.makeFunc,Sem.run_bind,Sem.run_pure,Result.andThen_ok]
 ·grind[mN]
 ·rename_i t x lo hi ho
  obtain⟨z,val,h1,h2,h3⟩:=XA hT hB st e (h.ev x) (lE h lo) (lE h hi);grind[execOp,Sem.run_bind,Result.andThen_ok,Sem.run_pure]
 ·rename_i t x f ho
  split at e
  case h_2=>cases e
  rename_i z hz;obtain⟨u,h1,h2⟩:=WK hT hz (h.ev x);grind[execOp,Sem.run_bind,Result.andThen_ok,Sem.run_pure]
 ·rename_i t x f ho
  split at e
  case h_2=>cases e
  rename_i z hz;obtain⟨u,h1,h2⟩:=YU hT hz (h.ev x);grind[execOp,Sem.run_bind,Result.andThen_ok,Sem.run_pure]
 ·rename_i t x i ho
  obtain⟨z,val,h1,h2,h3⟩:=Ww hT hB st e (h.ev x) (h.ev i);grind[execOp,Sem.run_bind,Result.andThen_ok,Sem.run_pure]
 ·rename_i t x i ho
  obtain⟨z,val,h1,h2,h3⟩:=TH hT e (h.ev x) (h.ev i);grind[execOp,Sem.run_bind,Result.andThen_ok,Sem.run_pure]
 ·rename_i x i ho
  split at e
  case h_2=>cases e
  rename_i z hz;obtain⟨u,h1,h2⟩:=Tg (P:=P) hz (h.ev x);grind[execOp,Sem.run_bind,Result.andThen_ok,Sem.run_pure]
 ·rename_i f args dF ho
  rw[ho]at eU;cases eU
 ·rename_i args dF ho
  split at e
  ·rename_i s t Ff xH
   obtain⟨x,rfl,hx⟩:=P2 Ff;have hv:=h.ev x;rw[hx]at hv;have Qq:=Pp (E:=E) (w:=w) (vw:=σ.bx) hv;split at e
   case isFalse=>cases e
   rename_i hs;have hu:=Pq hT hs;refine same (v:= .int .i64 (s.length:Int)) (x:= .c (.v (.int .i64) (s.length:Int))) ?_ (VR.int (E:=E) (vw:=σ.bx) _ _) e
   have KS:(⟨s.toArray⟩:ByteArray).size=s.length:=by rfl
   simp[execOp,ho,resolve,invoke,builtin,Builtin.len_,xH,Qq,A9 hu,goInt,KS]
  ·rename_i z t _ Ff xH
   obtain⟨x,rfl,hx⟩:=P2 Ff;have hv:=h.ev x;rw[hx]at hv;split at e
   case isFalse=>cases e
   rename_i hs;split at e
   case h_2=>cases e
   rename_i n hn;obtain⟨el,hu⟩:=Xx hT hs;obtain⟨ad,cap,Qq⟩:=Yx hB st hn hv;refine same (v:= .int .i64 (n:Int)) (x:= .c (.v (.int .i64) (n:Int))) ?_ (VR.int (E:=E) (vw:=σ.bx) _ _) e
   simp[execOp,ho,resolve,invoke,builtin,Builtin.len_,xH,Qq,A9 hu,goInt]
  simp_all
 ·rename_i args dF ho
  split at e
  case h_2=>cases e
  rename_i x1 x2 Ff;exact iP hT h ho rfl Ff e
 ·rename_i args dF ho
  split at e
  case h_2=>cases e
  rename_i x Ff;exact ja hT h ho rfl Ff e (fun b p off n hx=>by grind[HC])
 ·rename_i args dF ho
  split at e
  case h_2=>cases e
  rename_i x1 x2 Ff;obtain⟨o1,o2,rfl,hx1,hx2⟩:=Pe Ff;have Rz:=h.ev o1;have RQ:=h.ev o2;rw[hx1]at Rz;rw[hx2]at RQ;obtain⟨r,val,h1,h2,h3⟩:=M7 (P:=P) (big:=true) e Rz RQ dF #[] o.type;simp only[AHL]at h2;exact same (v:=val) (x:= .c r) (by simp[execOp,ho,resolve,invoke,builtin,h2]) h3 h1
 ·rename_i args dF ho
  split at e
  case h_2=>cases e
  rename_i x1 x2 Ff;obtain⟨o1,o2,rfl,hx1,hx2⟩:=Pe Ff;have Rz:=h.ev o1;have RQ:=h.ev o2;rw[hx1]at Rz;rw[hx2]at RQ;obtain⟨r,val,h1,h2,h3⟩:=M7 (P:=P) (big:=false) e Rz RQ dF #[] o.type;simp only[AE6,AGn]at h2;exact same (v:=val) (x:= .c r) (by simp[execOp,ho,resolve,invoke,builtin,h2]) h3 h1
 simp_all
end
end Go.Fw
end
