/- The framework, part 1: a checked interpreter of the model's code over abstract states; no claim is made here. -/
import Derived.Calls
import Derived.Still
import Derived.Laws.World
import Derived.Laws.AppendOwn
import Derived.RowKit3
import Derived.Deep.MidRow
import Derived.Laws.StructEq
import Derived.Lib.ConvBytes
import Derived.Laws.BytesArg
import Derived.Tactics
import Derived.OrdersHeld
import Derived.ChangeArms
import Derived.ChangeOld
import Derived.DataReads
import Derived.Below
import Derived.Shelf.Spec.SlicesInsertGrow
import Derived.Shelf.Slices.Delete
set_option linter.unusedVariables false
set_option linter.unusedSimpArgs false
set_option linter.unusedSectionVars false
abbrev ADZ:Type:=Int × Int × Bool × List UInt8 × Unit
abbrev AK9:Type:=List UInt8 × List Int × Bool × Unit
abbrev AGj:Type:=List Int × Bool × Int × Unit
abbrev AGM:Type:=Int × Int × List UInt8 × Unit
abbrev AGq:Type:=Int × List UInt8 × Bool × Unit
abbrev ADs:Type:=Unit × Int × Unit × Unit × Unit × Int × Unit × Unit × Unit × Unit × Bool × Unit
abbrev AAG:Type:=List Int
abbrev ALL:Type:=Int × Bool × Int × Int × Bool × List UInt8 × Unit
abbrev ABU:Type:=List Int × Int × Unit
abbrev ADc:Type:=List Int × Int × Int × Unit
abbrev AGs:Type:=Int × Int × Unit × Unit × Bool × Unit × Unit
abbrev ABk:Type:=Bool × Unit
abbrev AB5:Type:=Int × Unit
abbrev ALE:Type:=Unit × Unit × Int × Unit
abbrev ACx:Type:=Unit × Unit
abbrev ADA:Type:=List Int × Unit
abbrev ADW:Type:=Int × Int × Int × Int × List UInt8 × Unit
abbrev AGt:Type:=Unit × Int × Unit
abbrev ABa:Type:=List Nat
abbrev AHQ:Type:=Int × Int × Unit × Unit
abbrev AHE:Type:=Int × Unit × Unit
abbrev ALK:Type:=Int × Bool × Unit
abbrev ADY:Type:=Nat × Nat
abbrev AGn:Type:=Unit × List Int × Unit
abbrev AGm:Type:=Nat × List Nat
abbrev ABp:Type:=List UInt8
abbrev AGo:Type:=List UInt8 × Unit
abbrev ABe:Type:=Int × Int × List Int × List ADZ × Bool × List AAG × Unit
abbrev ACn:Type:=List ADZ × List ADZ × Int × Unit
abbrev ADa:Type:=Int × Int × List AGM × Unit
abbrev ACt:Type:=Int × List AK9 × Unit
abbrev AA2:Type:=List ADZ
abbrev AAX:Type:=List AGj
abbrev AAl:Type:=List AGq
abbrev ACa:Type:=List AGj × Int × Unit
abbrev ALU:Type:=ADs × Int × Unit
abbrev AB4:Type:=List AK9
abbrev AMO:Type:=ALE × Bool × Unit
abbrev AMX:Type:=AGs × Bool × Unit
abbrev ADu:Type:=ADc × Unit
abbrev ADg:Type:=AGt × Unit
abbrev ADf:Type:=List AGM
abbrev AMi:Type:=AHE × Bool × Unit
abbrev AMh:Type:=AGt × Bool × Unit
abbrev AMc:Type:=ADZ × Bool × Unit
abbrev AGi:Type:=ADc × List Int × Unit
abbrev AEy:Type:=ALK × Unit
abbrev AEp:Type:=ALE × Unit
abbrev AEO:Type:=AGs × Unit
abbrev ADJ:Type:=List ALL
abbrev AFB:Type:=AHQ × Unit
abbrev AE9:Type:=AHE × Unit
abbrev AFn:Type:=ADs × Unit
abbrev AMk:Type:=ADs × Bool × Unit
abbrev AGl:Type:=ADW × Unit
abbrev ADb:Type:=AB5 × Unit
abbrev AGk:Type:=ADZ × Unit
abbrev AIZ:Type:=AHE × Int × Bool × Unit
abbrev AIY:Type:=AGt × Int × Bool × Unit
abbrev AKX:Type:=ADs × Unit × ADs × Unit
abbrev AHh:Type:=AHQ × Int × Unit
abbrev AFt:Type:=List ADW
abbrev ABf:Type:=List Int × Int × List ACn × List Int × List AGj × Int × List ACt × List ABe × List ADa × List AGq × Bool × Unit
abbrev AAa:Type:=List ACn
abbrev AAt:Type:=List ACt
abbrev ABQ:Type:=List ADa
abbrev AA9:Type:=List ABe
abbrev ADi:Type:=List Int × AA2 × List AAG × Unit
abbrev ADh:Type:=AA2 × AA2 × Unit
abbrev ADe:Type:=ALU × Unit
abbrev ADj:Type:=AMO × Unit
abbrev AEj:Type:=AMX × Unit
abbrev AD7:Type:=AB4 × Unit
abbrev AD5:Type:=AAX × Unit
abbrev AFE:Type:=ADf × Unit
abbrev AE1:Type:=AA2 × Unit
abbrev AF_:Type:=AMc × Unit
abbrev AGh:Type:=AMh × Unit
abbrev AGg:Type:=AMi × Unit
abbrev AKl:Type:=ADc × List Int × AA2 × List AAG × Unit
abbrev AGr:Type:=Unit × AA2 × Unit
abbrev AHT:Type:=AHQ × Unit × ADf × Unit
abbrev AKg:Type:=ADc × AA2 × AA2 × Unit
abbrev AGp:Type:=AMk × Unit
abbrev AKk:Type:=ADc × AB4 × Unit
abbrev AKj:Type:=ADc × AAX × Unit
abbrev ADd:Type:=List Int × AAa × List Int × AAX × AAt × AA9 × ABQ × AAl × Unit
abbrev AD0:Type:=ADs × List Int × AAa × List Int × AAX × AAt × AA9 × ABQ × AAl × Unit
abbrev AK3:Type:=ADs × List Int × AAa × Unit × AAX × AAt × AA9 × ABQ × AAl × List Int × Unit
abbrev AJp:Type:=List Int × AAa × Unit × AAX × AAt × AA9 × ABQ × AAl × List Int × Unit
abbrev AJz:Type:=AAa × AA2 × AA2 × Unit
abbrev AMo:=@Bool.eq_false_or_eq_true
abbrev AMp:=@if_pos
abbrev AMt:=@List.getElem?_eq_getElem
abbrev AM5:=@if_neg
abbrev AM7:=@Option.some.injEq
abbrev AM9:=@Option.map_eq_some_iff
abbrev AM_:=@List.getElem?_eq_some_iff
abbrev ANB:=@Bool.and_eq_true
abbrev ANI:=@cond_false
abbrev ANL:=@Option.bind_eq_some_iff
abbrev ANN:=@Int.toNat_natCast
abbrev ANX:=@Bool.not_true
abbrev ANY:=@Option.bind_some
abbrev ANZ:=@Bool.false_eq_true
abbrev ANa:=@List.getElem_mem
abbrev ANk:=@cond_true
abbrev ANl:=@List.drop_eq_nil_of_le
abbrev ANo:=@decide_eq_true_eq
abbrev ANr:=@Bool.true_and
abbrev AN6:=@List.append_nil
abbrev AN9:=@Sigma.mk.injEq
abbrev AOY:=@List.nodup_append
abbrev AOj:=@List.append_assoc
abbrev AOt:=@List.mem_append
abbrev AOw:=@List.length_cons
abbrev AO2:=@List.getElem?_append_left
abbrev APy:=@List.mem_of_getElem?
abbrev AP0:=@Nat.mul_le_mul_right
abbrev AQI:=@List.getElem?_append_right
abbrev AQQ:=@List.mem_cons
abbrev AQS:=@Bool.not_eq_true
abbrev AQU:=@List.length_append
abbrev AQk:=@Bool.not_eq_false'
abbrev AQm:=@Nat.le_refl
abbrev AQ7:=@if_false
abbrev AQ_:=@List.cons.injEq
abbrev ARG:=@beq_eq_false_iff_ne
abbrev ARJ:=@List.eq_nil_of_length_eq_zero
abbrev ARW:=@List.length_nil
abbrev ARb:=@Prod.mk.injEq
abbrev ARp:=@List.length_filter_le
abbrev ARx:=@List.pairwise_cons
abbrev ASN:=@eq_of_heq
abbrev ASX:=@Nat.le_trans
abbrev ATb:=@Bool.not_false
abbrev ATh:=@List.getElem?_map
abbrev ATy:=@decide_eq_true
abbrev AT1:=@List.mem_flatten
abbrev AT2:=@List.getElem_of_mem
abbrev AT3:=@List.mem_singleton
abbrev AT4:=@List.getElem?_set_ne
abbrev AT5:=@Bool.false_or
abbrev AT6:=@List.nil_append
abbrev AT7:=@List.mem_or_eq_of_mem_set
abbrev AT8:=@if_true
abbrev AT9:=@Nat.lt_of_lt_of_le
abbrev AT_:=@List.drop_zero
abbrev AUA:=@List.filter_cons
abbrev AUB:=@List.take_of_length_le
abbrev AUC:=@Bool.false_and
abbrev AUD:=@and_true
abbrev AUE:=@Bool.or_eq_true
abbrev AUF:=@List.take_succ_eq_append_getElem
abbrev AUG:=@decide_eq_false
abbrev AUH:=@Option.isSome_none
abbrev AUI:=@Option.isSome_some
abbrev AUJ:=@Option.getD_some
abbrev AUK:=@List.getElem?_set_self
abbrev AUL:=@List.map_congr_left
abbrev AUM:=@List.length_set
abbrev AUN:=@List.mem_filter
abbrev AUO:=@Bool.not_eq_true'
abbrev AUP:=@beq_iff_eq
abbrev AUQ:=@Bool.eq_false_iff
abbrev AUR:=@List.mem_map
abbrev AUS:=@List.all_eq_true
abbrev AUT:=@List.all_cons
abbrev AUU:=@Bool.and_true
abbrev AUV:=@Nat.add_mul
abbrev AUW:=@List.flatten_append
abbrev AUY:=@Nat.zero_add
abbrev AUf:=@List.length_replicate
abbrev AUj:=@List.eq_of_mem_replicate
abbrev AUk:=@List.singleton_append
abbrev AUs:=@Nat.add_assoc
abbrev AUu:=@decide_eq_false_iff_not
abbrev AU_:=@List.drop_length
abbrev AVP:=@List.flatten_cons
abbrev AVe:=@Nat.add_zero
abbrev AVh:=@List.find?_cons
abbrev AVj:=@List.getElem?_eq_none
abbrev AVo:=@List.cons_append
abbrev AVt:=@List.map_cons
abbrev AVu:=@List.map_map
abbrev AV2:=@Nat.le_of_lt
abbrev AWC:=@Option.bind_assoc
abbrev AWH:=@List.length_map
abbrev AWP:=@List.Perm.append_right
abbrev AWZ:=@List.getElem_cons_zero
abbrev AWw:=@List.contains_iff_mem
abbrev AWy:=@List.mem_of_find?_eq_some
abbrev AW1:=@List.drop_eq_getElem_cons
abbrev AXE:=@List.mem_of_mem_drop
abbrev AXF:=@List.ext_getElem?
abbrev AXI:=@List.pairwise_map
abbrev AXM:=@apply_ite
abbrev AXQ:=@Array.length_toList
abbrev AXX:=@Nat.sub_mul
abbrev AXa:=@List.flatten_nil
abbrev AXb:=@List.length_take
abbrev AXz:=@List.set_cons_zero
abbrev AYC:=@List.getElem?_drop
abbrev AYD:=@List.getElem?_take
abbrev AYE:=@List.Perm.append_left
abbrev AYF:=@List.nodup_cons
abbrev AYG:=@Array.getD_eq_getD_getElem?
abbrev AYH:=@Bool.eq_iff_iff
abbrev AYI:=@List.exists_cons_of_length_eq_add_one
abbrev AYJ:=@List.mem_of_mem_take
abbrev AYK:=@Bool.and_false
abbrev AYL:=@List.length_drop
abbrev AYM:=@List.map_nil
abbrev AYN:=@List.length_eq_zero_iff
abbrev AYO:=@List.getElem?_cons_succ
abbrev AYP:=@Int.eq_ofNat_of_zero_le
abbrev AYQ:=@Nat.eq_zero_or_pos
abbrev AYR:=@Array.size_append
abbrev AYS:=@List.size_toArray
abbrev AYT:=@List.any_eq_false
abbrev AYU:=@Decidable.not_not
abbrev AYV:=@Nat.zero_le
abbrev AYW:=@List.set_set
abbrev AYX:=@dite_true
abbrev AYY:=@List.set_append_right
abbrev AYZ:=@Bool.true_or
abbrev AYa:=@List.getElem_set_self
abbrev AYb:=@beq_self_eq_true
abbrev AYc:=@List.mem_cons_of_mem
abbrev AYd:=@Bool.or_false
abbrev AYe:=@Option.map_some
abbrev AYf:=@List.length_pos_iff
abbrev AYg:=@List.filter_nil
abbrev AYh:=@List.drop_set_of_lt
abbrev AYi:=@List.take_set_of_le
abbrev AYj:=@List.Perm.refl
abbrev AYk:=@List.mapM_cons
abbrev AYl:=@List.take_zero
section
namespace Go.Fw
inductive Ty where
 |int (k:IntKind)|bool|str|sl (r:Ty)|unit|cons (c r:Ty)
 deriving DecidableEq
@[reducible] def Ty.D:Ty→Type
 | .int _=>Int
 | .bool=>Bool
 | .str=>List UInt8
 | .sl r=>List r.D
 | .unit=>Unit
 | .cons c r=>c.D×r.D
def Ty.n:Ty→Nat
 | .unit=>0
 | .cons _ r=>r.n+1
 |_=>1
def Ty.z:(t:Ty)→t.D
 | .int _=>(0:Int)
 | .bool=>false
 | .str=>[]
 | .sl _=>[]
 | .unit=>()
 | .cons c r=>(c.z,r.z)
def Ty.flat:Ty→Bool
 | .sl _=>false
 | .cons c r=>c.flat&&r.flat
 |_=>true
def Ty.scalar:Ty→Bool
 | .int _| .bool| .str=>true
 |_=>false
structure nS where
 i:Nat
 sz:Nat
 j:Nat
inductive AV where
 |v (t:Ty) (x:t.D)
 |sl (s:Bool) (r:Ty) (x:List r.D)
 |nil
 |ref (b:Nat) (p:List nS)
 |win (b:Nat) (p:List nS) (off n:Nat)
 |Ip (b j:Nat)
 |Jk (b:Nat) (p:List nS) (i sz j:Nat)
 |P8 (s:Bool) (r:Ty) (x:r.D) (j:Nat)
 |fn (f:Nat) (Ki:ABa)
 |sB (f:Nat) (rows:List ((r:Ty)×r.D))
 |zg
 |undef
def AV.known:AV→Bool
 | .undef=>false
 |_=>true
inductive XV where
 |c (x:AV)
 |agg (l:List AV)
 |Nb (l:List (AV ⊕ List AV))
inductive Bx where
 |mem (cs:List AV)
 |sl (d:Nat) (r:Ty) (rows:List r.D)
 |dead
structure St where
 tm:List XV
 bx:List Bx
def BQ:(r:Ty)→(j:Nat)→r.D→Option ((t:Ty)×t.D)
 | .cons c _,0,x=>some ⟨c,x.1⟩
 | .cons _ r,j+1,x=>BQ r j x.2
 | .unit,_,_=>none
 | .int k,0,x=>some ⟨.int k,x⟩
 | .bool,0,x=>some ⟨.bool,x⟩
 | .str,0,x=>some ⟨.str,x⟩
 | .sl r,0,x=>some ⟨.sl r,x⟩
 |_,_+1,_=>none
def qZ{a b:Ty}(h:a=b)(x:a.D):b.D:=h▸x
def D_:(r:Ty)→(j:Nat)→r.D→(t:Ty)→t.D→Option r.D
 | .cons c _,0,x,t,y=>if h:t=c then some (qZ h y,x.2)else none
 | .cons _ r,j+1,x,t,y=>(D_ r j x.2 t y).map fun z=>(x.1,z)
 | .unit,_,_,_,_=>none
 | .int k,0,_,t,y=>if h:t= .int k then some (qZ h y)else none
 | .bool,0,_,t,y=>if h:t= .bool then some (qZ h y)else none
 | .str,0,_,t,y=>if h:t= .str then some (qZ h y)else none
 | .sl r,0,_,t,y=>if h:t= .sl r then some (qZ h y)else none
 |_,_+1,_,_,_=>none
def rowAt(r:Ty)(rows:List r.D)(i:Nat):r.D:=rows.getD i r.z
def HF:(r:Ty)→List r.D→List nS→Option ((q:Ty)×List q.D)
 |r,rows,[]=>some ⟨r,rows⟩
 |r,rows,s::p=>
  match BQ r s.j (rowAt r rows s.i)with
  |some ⟨.sl q,x⟩=>HF q x p
  |_=>none
def rA:(r:Ty)→List r.D→List nS→(q:Ty)→List q.D→Option (List r.D)
 |r,_,[],q,y=>if h:q=r then some (qZ (congrArg Ty.sl h) y)else none
 |r,rows,s::p,q,y=>
  match BQ r s.j (rowAt r rows s.i)with
  |some ⟨.sl r',x⟩=>(rA r' x p q y).bind fun x' =>(D_ r s.j (rowAt r rows s.i) (.sl r') x').map fun row=>rows.set s.i row
  |_=>none
inductive TD where
 |int (k:IntKind)|bool|str|sl (e:Nat)|st (fs:List ADY)|ptr (e:Nat)|other
structure TI where
 size:Nat
 bytes:Nat
 desc:TD
 row:Option Ty
abbrev Jw:=List (Nat×TI)
def Jw.get:Jw→Nat→Option TI
 |[],_=>none
 |(u,i)::l,t=>if u=t then some i else Jw.get l t
def TD.agg:TD→Bool
 | .st _=>true
 |_=>false
def Jw.kN(T:Jw)(t:Nat):Option Ty:=
 match T.get t with
 |some ti=>ti.row
 |none=>none
def zC:Ty→AV
 | .int k=> .v (.int k) (0:Int)
 | .bool=> .v .bool false
 | .str=> .v .str []
 | .sl _=> .nil
 |_=> .undef
def cg:Ty→List AV
 | .cons c r=>zC c::cg r
 | .unit=>[]
 |t=>[zC t]
def qF:Value→AV
 | .int k n=> .v (.int k) n
 | .bool b=> .v .bool b
 | .string s=> .v .str s.data.toList
 | .slice none 0 0=> .nil
 | .pointer none=> .zg
 |_=> .undef
def ofValue:Value→XV
 | .agg cs=> .agg (cs.toList.map qF)
 |v=> .c (qF v)
def St.ev(σ:St):Operand→XV
 | .tmp t=>σ.tm.getD t (.c .undef)
 | .const v=>ofValue v
 | .global _=> .c .undef
 | .func f=> .c (.fn f [])
def St.put(σ:St)(dst:Option Tmp)(x:XV):St:=
 match dst with
 |some d=>{ σ with tm:=σ.tm.set d x }
 |none=>σ
def XV.cells:XV→List AV
 | .c x=>[x]
 | .agg l=>l
 | .Nb _=>[]
def Q9{β:Ty→Type}(a b:Ty)(x:β a):Option (β b):=if h:a=b then some (h▸x)else none
def N8(bx:List Bx):AV→Option ((r:Ty)×List r.D)
 | .sl _ r x=>some ⟨r,x⟩
 | .ref b p=>
  match bx[b]? with
  |some (.sl _ r rows)=>HF r rows p
  |_=>none
 | .win b p off n=>
  match bx[b]? with
  |some (.sl _ r rows)=>(HF r rows p).map fun q=>⟨q.1,(q.2.drop off).take n⟩
  |_=>none
 |_=>none
def NZ(bx:List Bx)(t:Ty)(x:AV):Option t.D:=
 match x with
 | .v u y=>Q9 (β:=Ty.D) u t y
 | .nil=>match t with
  | .sl _=>some []
  |_=>none
 |x=>match t with
  | .sl r=>(N8 bx x).bind fun q=>Q9 (β:=fun r=>List r.D) q.1 r q.2
  |_=>none
def IH(bx:List Bx):(r:Ty)→List AV→Option r.D
 | .unit,[]=>some ()
 | .cons c r,x::l=>(NZ bx c x).bind fun a=>(IH bx r l).map fun b=>(a,b)
 |_,_=>none
def lenOf(bx:List Bx):AV→Option Nat
 | .nil=>some 0
 | .sl _ _ x=>some x.length
 | .ref b p=>
  match bx[b]? with
  |some (.sl _ r rows)=>(HF r rows p).map fun q=>q.2.length
  |_=>none
 | .win b _ _ n=>
  match bx[b]? with
  |some (.sl _ _ _)=>some n
  |_=>none
 |_=>none
inductive AP where
 |v (t:Ty)
 |sl (s:Bool) (r:Ty)
 |nil
 |ref (i:Nat)
 |ptr (i j:Nat)
 |oe (r:Ty)
 |fn (f:Nat) (Ki:ABa)
 |sB (f:Nat) (rs:List Ty)
 |any
 |mb (i sz:Nat)
inductive XP where
 |c (p:AP)
 |agg (l:List AP)
 |row (r:Ty)
 |Nb (l:List (AP ⊕ List AP))
inductive BP where
 |mem (l:List AP)
 |sl (d:Nat) (r:Ty)
 |gone
structure BE where
 D8:List (Nat×XP)
 G8:List BP
@[reducible] def aC:List Ty→Type
 |[]=>Unit
 |r::l=>r.D×aC l
def aC.mk:(l:List Ty)→aC l→List ((r:Ty)×r.D)
 |[],_=>[]
 |r::l,x=>⟨r,x.1⟩::aC.mk l x.2
@[reducible] def AP.V:AP→Type
 | .sB _ rs=>aC rs
 | .v t=>t.D
 | .sl _ r=>List r.D
 | .oe r=>r.D
 | .mb _ _=>Nat×Nat
 |_=>Unit
@[reducible] def Yj.V:List AP→Type
 |[]=>Unit
 |p::l=>p.V×Yj.V l
@[reducible] def ZW.V:List (AP ⊕ List AP)→Type
 |[]=>Unit
 | .inl p::l=>p.V×ZW.V l
 | .inr q::l=>Yj.V q×ZW.V l
@[reducible] def XP.V:XP→Type
 | .c p=>p.V
 | .agg l=>Yj.V l
 | .row r=>r.D
 | .Nb l=>ZW.V l
@[reducible] def BP.V:BP→Type
 | .mem l=>Yj.V l
 | .sl _ r=>List r.D
 | .gone=>Unit
@[reducible] def HA.V:List (Nat×XP)→Type
 |[]=>Unit
 |(_,p)::l=>p.V×HA.V l
@[reducible] def J1.V:List BP→Type
 |[]=>Unit
 |p::l=>p.V×J1.V l
@[reducible] def BE.V (s:BE):Type:=HA.V s.D8×J1.V s.G8
def AP.mk(m:Nat→Nat):(p:AP)→p.V→AV
 | .v t,x=> .v t x
 | .sl s r,x=> .sl s r x
 | .nil,_=> .nil
 | .ref i,_=> .ref (m i) []
 | .ptr i j,_=> .Ip (m i) j
 | .oe r,x=> .P8 false r x 0
 | .fn f Ki,_=> .fn f (Ki.map m)
 | .sB f rs,x=> .sB f (aC.mk rs x)
 | .any,_=> .undef
 | .mb i sz,k=> .ref (m i) [⟨k.1,sz,k.2⟩]
def Yj.mk(m:Nat→Nat):(l:List AP)→Yj.V l→List AV
 |[],_=>[]
 |p::l,x=>p.mk m x.1::Yj.mk m l x.2
def rz:(r:Ty)→r.D→List AV
 | .unit,_=>[]
 | .cons c r,x=>(match c,x.1 with
  | .sl q,y=>AV.sl false q y
  |c,y=> .v c y)::rz r x.2
 | .sl q,x=>[.sl false q x]
 | .int k,x=>[.v (.int k) x]
 | .bool,x=>[.v .bool x]
 | .str,x=>[.v .str x]
def ZW.mk(m:Nat→Nat):(l:List (AP ⊕ List AP))→ZW.V l→List (AV ⊕ List AV)
 |[],_=>[]
 | .inl p::l,x=> .inl (p.mk m x.1)::ZW.mk m l x.2
 | .inr q::l,x=> .inr (Yj.mk m q x.1)::ZW.mk m l x.2
def XP.mk(m:Nat→Nat):(p:XP)→p.V→XV
 | .c p,x=> .c (p.mk m x)
 | .agg l,x=> .agg (Yj.mk m l x)
 | .row r,x=> .agg (rz r x)
 | .Nb l,x=> .Nb (ZW.mk m l x)
def BP.mk(m:Nat→Nat):(p:BP)→p.V→Bx
 | .mem l,x=> .mem (Yj.mk m l x)
 | .sl d r,x=> .sl d r x
 | .gone,_=> .dead
def HA.mk(m:Nat→Nat):(l:List (Nat×XP))→HA.V l→List XV→List XV
 |[],_,tm=>tm
 |(i,p)::l,x,tm=>HA.mk m l x.2 (tm.set i (p.mk m x.1))
def J1.mk(m:Nat→Nat):(l:List BP)→J1.V l→List Bx
 |[],_=>[]
 |p::l,x=>p.mk m x.1::J1.mk m l x.2
def BE.st(s:BE)(n:Nat)(x:s.V):St:=
 { tm:=HA.mk id s.D8 x.1 (List.replicate n (.c .undef)),bx:=J1.mk id s.G8 x.2 }
abbrev QI:=List (Option Nat)
def QI.put(m:QI)(i b:Nat):Option QI:=
 match m[i]? with
 |some none=>if m.contains (some b)then none else some (m.set i (some b))
 |some (some b')=>if b' =b then some m else none
 |none=>none
def bw:QI→List Nat→List Nat→Option QI
 |m,[],[]=>some m
 |m,i::is,b::bs=>(m.put i b).bind fun m=>bw m is bs
 |_,_,_=>none
def AP.OY(N:Nat)(m:QI):AP→AV→Option QI
 | .ref i,.ref b []=>m.put i b
 | .ref i,.nil=>m.put i (N+i)
 | .ref _,_=>none
 | .mb i sz,.ref b [s]=>if s.sz=sz then m.put i b else none
 | .mb _ _,_=>none
 | .ptr i j,.Ip b j' =>if j=j' then m.put i b else none
 | .ptr _ _,_=>none
 | .fn f Ki,.fn g bs=>if f=g then bw m Ki bs else none
 | .fn _ _,_=>none
 | .nil,.nil=>some m
 | .nil,_=>none
 |_,_=>some m
def Yj.OY(N:Nat):QI→List AP→List AV→Option QI
 |m,[],[]=>some m
 |m,p::l,x::xs=>(p.OY N m x).bind fun m=>Yj.OY N m l xs
 |_,_,_=>none
def ZW.OY(N:Nat):QI→List (AP ⊕ List AP)→List (AV ⊕ List AV)→Option QI
 |m,[],[]=>some m
 |m,.inl p::l,.inl x::xs=>(p.OY N m x).bind fun m=>ZW.OY N m l xs
 |m,.inr p::l,.inr x::xs=>(Yj.OY N m p x).bind fun m=>ZW.OY N m l xs
 |_,_,_=>none
def XP.OY(N:Nat)(m:QI):XP→XV→Option QI
 | .c p,.c x=>p.OY N m x
 | .agg l,.agg xs=>Yj.OY N m l xs
 | .row _,.agg _=>some m
 | .Nb l,.Nb xs=>ZW.OY N m l xs
 |_,_=>none
def HA.OY(N:Nat)(tm:List XV):QI→List (Nat×XP)→Option QI
 |m,[]=>some m
 |m,(i,p)::l=>
  match tm[i]? with
  |some x=>(p.OY N m x).bind fun m=>HA.OY N tm m l
  |none=>none
def J1.OY(N:Nat)(bx:List Bx):Nat→QI→List BP→Option QI
 |_,m,[]=>some m
 |i,m,.mem l::ps=>
  match m[i]? with
  |some (some b)=>
   match bx[b]? with
   |some (.mem cs)=>(Yj.OY N m l cs).bind fun m=>J1.OY N bx (i+1) m ps
   |_=>none
  |_=>none
 |i,m,.sl _ _::ps=>
  match m[i]? with
  |some (some _)=>J1.OY N bx (i+1) m ps
  |_=>none
 |i,m,.gone::ps=>J1.OY N bx (i+1) m ps
def Cx(bx:List Bx):QI→List Bx
 |[]=>bx
 |some b::m=>Cx (bx.set b .dead) m
 |none::m=>Cx bx m
def aC.p_:(l:List Ty)→List ((r:Ty)×r.D)→Option (aC l)
 |[],[]=>some ()
 |r::l,q::qs=>(Q9 (β:=Ty.D) q.1 r q.2).bind fun a=>(aC.p_ l qs).map fun b=>(a,b)
 |_,_=>none
def aC.q9(bx:List Bx):(l:List Ty)→List Nat→Option (aC l)
 |[],[]=>some ()
 |r::l,b::bs=>(match bx[b]? with
  |some (.mem cs)=>IH bx r cs
  |_=>none).bind fun a=>(aC.q9 bx l bs).map fun c=>(a,c)
 |_,_=>none
def AP.get(bx:List Bx):(p:AP)→AV→Option p.V
 | .sB f rs,x=>match x with
  | .sB g rows=>if f=g then aC.p_ rs rows else none
  | .fn g bs=>if f=g then aC.q9 bx rs bs else none
  |_=>none
 | .v t,x=>if t.scalar then NZ bx t x else none
 | .sl false r,x=>NZ bx (.sl r) x
 | .sl true r,x=>match x with
  | .sl true q y=>Q9 (β:=fun r=>List r.D) q r y
  | .nil=>some []
  |_=>none
 | .oe r,x=>match x with
  | .P8 _ q y 0=>Q9 (β:=Ty.D) q r y
  | .Ip b 0=>match bx[b]? with
   |some (.mem cs)=>IH bx r cs
   |_=>none
  | .Jk b p i sz 0=>match bx[b]? with
   |some (.sl _ q rows)=>(HF q rows p).bind fun s=>if sz=s.1.n then Q9 (β:=Ty.D) s.1 r (rowAt s.1 s.2 i)else none
   |_=>none
  |_=>none
 | .nil,_=>some ()
 | .ref _,_=>some ()
 | .ptr _ _,_=>some ()
 | .fn _ _,_=>some ()
 | .any,_=>some ()
 | .mb _ _,x=>match x with
  | .ref _ [s]=>some (s.i,s.j)
  |_=>none
def Yj.get(bx:List Bx):(l:List AP)→List AV→Option (Yj.V l)
 |[],[]=>some ()
 |p::l,x::xs=>(p.get bx x).bind fun a=>(Yj.get bx l xs).map fun b=>(a,b)
 |_,_=>none
def ZW.get(bx:List Bx):(l:List (AP ⊕ List AP))→List (AV ⊕ List AV)→Option (ZW.V l)
 |[],[]=>some ()
 | .inl p::l,.inl x::xs=>(p.get bx x).bind fun a=>(ZW.get bx l xs).map fun b=>(a,b)
 | .inr p::l,.inr x::xs=>(Yj.get bx p x).bind fun a=>(ZW.get bx l xs).map fun b=>(a,b)
 |_,_=>none
def XP.get(bx:List Bx):(p:XP)→XV→Option p.V
 | .c p,.c x=>p.get bx x
 | .agg l,.agg xs=>Yj.get bx l xs
 | .row r,.agg xs=>IH bx r xs
 | .Nb l,.Nb xs=>ZW.get bx l xs
 |_,_=>none
def HA.get(bx:List Bx)(tm:List XV):(l:List (Nat×XP))→Option (HA.V l)
 |[]=>some ()
 |(i,p)::l=>
  match tm[i]? with
  |some x=>(p.get bx x).bind fun a=>(HA.get bx tm l).map fun b=>(a,b)
  |none=>none
def J1.get(bx bk:List Bx):(m:QI)→(l:List BP)→Option (J1.V l)
 |_,[]=>some ()
 |some b::m,.mem l::ps=>
  match bx[b]? with
  |some (.mem cs)=>(Yj.get bk l cs).bind fun a=>(J1.get bx bk m ps).map fun c=>(a,c)
  |_=>none
 |some b::m,.sl d r::ps=>
  match bx[b]? with
  |some (.sl d' q rows)=>if 1≤d∧d≤d' then(Q9 (β:=fun r=>List r.D) q r rows).bind fun a=>(J1.get bx bk m ps).map fun c=>(a,c)else none
  |_=>none
 |_::m,.gone::ps=>(J1.get bx bk m ps).map fun c=>((),c)
 |_,_=>none
def BE.fit(s:BE)(N:Nat)(m0:QI)(tm:List XV)(bx:List Bx):Option (s.V×QI):=
 (HA.OY N tm m0 s.D8).bind fun m=>(J1.OY N bx 0 m s.G8).bind fun m=>
  let bk:=Cx bx m
  (HA.get bk tm s.D8).bind fun a=>(J1.get bx bk m s.G8).map fun c=>((a,c),m)
def BP.opened:BP→Bx
 | .sl d r=> .sl (d+1) r []
 |_=> .dead
def BE.opens(s:BE)(bx:List Bx):List Bx:=bx++s.G8.map BP.opened
def BE.m0(s:BE):QI:=List.replicate s.G8.length none
structure Qf where
 ins:BE
 outs:BE
 g:ins.V→Option outs.V
def ZA(m:QI)(n:Nat)(i:Nat):Nat:=
 match m[i]? with
 |some (some b)=>b
 |_=>n+(i-m.length)
def bD(Jo:Nat→Nat):Nat→(l:List BP)→J1.V l→List Bx→List Bx
 |_,[],_,bx=>bx
 |i,p::l,x,bx=>bD Jo (i+1) l x.2 (if Jo i<bx.length then bx.set (Jo i) (p.mk Jo x.1)else bx++[p.mk Jo x.1])
def fX:(l:List (Nat×XP))→HA.V l→(Nat→Nat)→XV
 |(_,p)::_,x,Jo=>p.mk Jo x.1
 |[],_,_=> .c .undef
def DE:Nat:=2^36
section ops
variable{Y:Type}
abbrev K(Y:Type):=XV→St→Option Y
def St.new(σ:St)(b:Bx):St:={ σ with bx:=σ.bx++[b] }
def AFs(x:Bool)(a b:XV)(σ:St)(k:K Y):Option Y:=cond x (k a σ) (k b σ)
def gX(op:BinOp)(κ:IntKind)(a b:Int)(k:AV→Option Y):Option Y:=
 match op with
 | .add=>k (.v (.int κ) (κ.wrap (a+b)))
 | .sub=>k (.v (.int κ) (κ.wrap (a-b)))
 | .mul=>k (.v (.int κ) (κ.wrap (a*b)))
 | .quo=>if b=0 then none else k (.v (.int κ) (κ.wrap (a.tdiv b)))
 | .rem=>if b=0 then none else k (.v (.int κ) (a.tmod b))
 | .and=>k (.v (.int κ) (κ.wrap (BitVec.ofInt κ.bits a &&& BitVec.ofInt κ.bits b).toNat))
 | .or=>k (.v (.int κ) (κ.wrap (BitVec.ofInt κ.bits a ||| BitVec.ofInt κ.bits b).toNat))
 | .xor=>k (.v (.int κ) (κ.wrap (BitVec.ofInt κ.bits a ^^^ BitVec.ofInt κ.bits b).toNat))
 | .andNot=>k (.v (.int κ) (κ.wrap (BitVec.ofInt κ.bits a &&& ~~~BitVec.ofInt κ.bits b).toNat))
 | .eql=>k (.v .bool (a==b))
 | .neq=>k (.v .bool (a !=b))
 | .lss=>k (.v .bool (decide (a<b)))
 | .leq=>k (.v .bool (decide (a≤b)))
 | .gtr=>k (.v .bool (decide (a>b)))
 | .geq=>k (.v .bool (decide (a≥b)))
 |_=>none
def Zo(op:BinOp)(κ:IntKind)(a b:Int)(k:AV→Option Y):Option Y:=
 if b<0 then none else
 match op with
 | .shl=>k (.v (.int κ) (κ.wrap (a*2^min b.toNat κ.bits)))
 | .shr=>k (.v (.int κ) (a.fdiv (2^min b.toNat κ.bits)))
 |_=>none
def kg(op:BinOp)(a b:ABp)(k:AV→Option Y):Option Y:=
 match op with
 | .add=>if a.length+b.length≤DE then k (.v .str (a++b))else none
 | .eql=>k (.v .bool (a==b))
 | .neq=>k (.v .bool (!(a==b)))
 | .lss=>k (.v .bool (Op.bytesLess a b))
 | .leq=>k (.v .bool (Op.bytesLess a b||a==b))
 | .gtr=>k (.v .bool (!(Op.bytesLess a b||a==b)))
 | .geq=>k (.v .bool (!Op.bytesLess a b))
 |_=>none
def qp:TD→AV→AV→Option Bool
 | .int _,.v (.int j) a,.v (.int k) b=>if j=k then some (a==b)else none
 | .bool,.v .bool a,.v .bool b=>some (a==b)
 | .str,.v .str a,.v .str b=>some (a==b)
 |_,_,_=>none
def Lc(T:Jw):Nat→List ADY→List AV→List AV→Option Bool
 |_,[],[],[]=>some true
 |i,(o,t)::fs,x::l,z::m=>
  if o=i then
   match T.get t with
   |some ti=>match qp ti.desc x z with
    |some p=>(Lc T (i+1) fs l m).map fun r=>p&&r
    |none=>none
   |none=>none
  else none
 |_,_,_,_=>none
def Jw.fields(T:Jw)(t:Nat):Option (List ADY):=
 match(T.get t).map TI.desc with
 |some (.st fs)=>some fs
 |_=>none
def xe(T:Jw)(t:Nat)(op:BinOp)(a b:XV)(k:AV→Option Y):Option Y:=
 match a,b with
 | .c (.v (.int j) x),.c (.v (.int j') y)=>
  match op with
  | .shl| .shr=>Zo op j x y k
  |_=>if j=j' then gX op j x y k else none
 | .c (.v .str x),.c (.v .str y)=>kg op x y k
 | .c (.v .bool x),.c (.v .bool y)=>
  match T.get t with
  |some ti=>match ti.desc with
   | .bool=>match op with
    | .eql=>k (.v .bool (x==y))
    | .neq=>k (.v .bool (!(x==y)))
    |_=>none
   |_=>none
  |none=>none
 | .agg l,.agg m=>
  match op,(T.fields t).bind fun fs=>Lc T 0 fs l m with
  | .eql,some r=>k (.v .bool r)
  | .neq,some r=>k (.v .bool (!r))
  |_,_=>none
 |_,_=>none
def unX(op:UnOp)(a:XV)(k:AV→Option Y):Option Y:=
 match op,a with
 | .not,.c (.v .bool x)=>k (.v .bool (!x))
 | .neg,.c (.v (.int j) x)=>k (.v (.int j) (j.wrap (0-x)))
 |_,_=>none
def AAu(d b:Nat)(p:List nS)(s:nS):((t:Ty)×t.D)→AV
 |⟨.sl r,x⟩=>if d≤1 then .sl true r x else .ref b (p++[s])
 |⟨t,x⟩=>if t.scalar then .v t x else .undef
def AAB(s:Bool):((t:Ty)×t.D)→AV
 |⟨.sl r,x⟩=> .sl s r x
 |⟨t,x⟩=>if t.scalar then .v t x else .undef
def eZ(f:Nat→Option AV):Nat→Nat→Option (List AV)
 |_,0=>some []
 |j,n+1=>(f j).bind fun x=>(eZ f (j+1) n).map fun l=>x::l
def Jj(bx:List Bx):AV→Nat→Option AV
 | .Ip b j,i=>
  match bx[b]? with
  |some (.mem cs)=>cs[j+i]?
  |_=>none
 | .Jk b p r sz j,i=>
  match bx[b]? with
  |some (.sl d q rows)=>if p.length<d then(HF q rows p).bind fun s=>if sz=s.1.n then(BQ s.1 (j+i) (rowAt s.1 s.2 r)).map (AAu (d-p.length) b p ⟨r,sz,j+i⟩)else none else none
  |_=>none
 | .P8 s r x j,i=>(BQ r (j+i) x).map (AAB s)
 |_,_=>none
def nI(T:Jw)(t:Nat)(σ:St)(a:XV):Option XV:=
 match a,T.get t with
 | .c a,some ti=>if ti.size=0 then none else if ti.desc.agg then(eZ (Jj σ.bx a) 0 ti.size).map .agg else(Jj σ.bx a 0).map .c
 |_,_=>none
def eE(d:Nat)(t:Ty)(x:AV)(bx:List Bx):Option (t.D×List Bx×Nat):=
 match x with
 | .v u y=>(Q9 (β:=Ty.D) u t y).map fun y=>(y,bx,d)
 | .nil=>match t with
  | .sl _=>some ([],bx,d)
  |_=>none
 | .sl true r y=>match t with
  | .sl q=>(Q9 (β:=fun r=>List r.D) r q y).map fun y=>(y,bx,1)
  |_=>none
 | .ref b []=>match t with
  | .sl q=>
   match bx[b]? with
   |some (.sl d' r y)=>(Q9 (β:=fun r=>List r.D) r q y).map fun y=>(y,bx.set b .dead,min d (d'+1))
   |_=>none
  |_=>none
 | .win b [] off n=>match t with
  | .sl q=>
   match bx[b]? with
   |some (.sl d' r y)=>(Q9 (β:=fun r=>List r.D) r q ((y.drop off).take n)).map fun y=>(y,bx.set b .dead,min d (d'+1))
   |_=>none
  |_=>none
 |_=>none
def cellsIn(d:Nat):(r:Ty)→List AV→List Bx→Option (r.D×List Bx×Nat)
 | .unit,[],bx=>some ((),bx,d)
 | .cons c r,x::l,bx=>(eE d c x bx).bind fun a=>(cellsIn a.2.2 r l a.2.1).map fun b=>((a.1,b.1),b.2)
 |_,_,_=>none
def AEN(d:Nat)(r:Ty)(x:XV)(bx:List Bx):Option (r.D×List Bx×Nat):=
 match x with
 | .agg l=>cellsIn d r l bx
 | .c x=>eE d r x bx
 |_=>none
def Jy(b:Nat):AV→AV
 | .ref b' (s::p)=>if b' =b then .undef else .ref b' (s::p)
 | .win b' (s::p) i n=>if b' =b then .undef else .win b' (s::p) i n
 | .Jk b' (s::p) i sz j=>if b' =b then .undef else .Jk b' (s::p) i sz j
 |x=>x
def uj(b:Nat):XV→XV
 | .c x=> .c (Jy b x)
 | .agg l=> .agg (l.map (Jy b))
 | .Nb l=> .Nb (l.map fun| .inl x=> .inl (Jy b x)| .inr q=> .inr (q.map (Jy b)))
def ABX(b:Nat):Bx→Bx
 | .mem cs=> .mem (cs.map (Jy b))
 |x=>x
def St.ABE(b:Nat)(σ:St):St:={ tm:=σ.tm.map (uj b),bx:=σ.bx.map (ABX b) }
def Yb(cs:List AV):Nat→List AV→Option (List AV)
 |_,[]=>some cs
 |j,x::l=>if j<cs.length then Yb (cs.set j x) (j+1) l else none
def qx(d:Nat)(r:Ty)(old:r.D)(j:Nat)(x:XV)(bx:List Bx):Option (r.D×List Bx×Nat):=
 match x with
 | .agg l=>if j=0 then cellsIn d r l bx else none
 | .c x=>
  match BQ r j old with
  |some ⟨t,_⟩=>(eE d t x bx).bind fun a=>(D_ r j old t a.1).map fun row=>(row,a.2)
  |none=>none
 |_=>none
def XV.plain:XV→Bool
 | .c (.v _ _)=>true
 |_=>false
def hO(σ:St)(a:XV)(x:XV):Option St:=
 match a with
 | .c (.Ip b j)=>
  match σ.bx[b]? with
  |some (.mem cs)=>(Yb cs j x.cells).map fun cs=>{ σ with bx:=σ.bx.set b (.mem cs) }
  |_=>none
 | .c (.Jk b p i sz j)=>
  match σ.bx[b]? with
  |some (.sl d r rows)=>if p.length<d then
   (HF r rows p).bind fun s=>if sz=s.1.n then(qx (d-p.length) s.1 (rowAt s.1 s.2 i) j x (σ.bx.set b .dead)).bind fun w=>
    (rA r rows p s.1 (s.2.set i w.1)).map fun rows=>
     let σ':St:={ σ with bx:=w.2.1.set b (.sl (w.2.2+p.length) r rows) }
     if x.plain then σ' else σ'.ABE b
    else none
   else none
  |_=>none
 |_=>none
def bI(σ:St)(a x:XV):Option (St×XV):=
 match a,x with
 | .c (.Jk b _ _ _ _),.c (.win b' (s::p') off n)=>
  if b' =b then
   match σ.bx[b]? with
   |some (.sl d r rows)=>(HF r rows (s::p')).map fun q=>({ σ with bx:=σ.bx.set b (.sl (min d (p'.length+1)) r rows) },.c (.sl true q.1 ((q.2.drop off).take n)))
   |_=>none
  else none
 |_,_=>some (σ,x)
def Mb(σ:St)(a x:XV):Option St:=(bI σ a x).bind fun q=>hO q.1 a q.2
def pB(bx:List Bx)(x:AV):Option ((r:Ty)×(List r.D×List Bx×Nat)):=
 match x with
 | .v .str s=>some ⟨.int .u8,s.map (fun c=>(c.toNat:Int)),bx,9⟩
 | .sl s r rows=>if r.flat then some ⟨r,rows,bx,9⟩else if s then some ⟨r,rows,bx,1⟩else none
 | .ref b []=>
  match bx[b]? with
  |some (.sl d r rows)=>if r.flat then some ⟨r,rows,bx,9⟩else some ⟨r,rows,bx.set b .dead,d⟩
  |_=>none
 | .ref b p=>
  match bx[b]? with
  |some (.sl _ r rows)=>(HF r rows p).bind fun q=>if q.1.flat then some ⟨q.1,q.2,bx,9⟩else none
  |_=>none
 | .win b p off n=>
  match bx[b]? with
  |some (.sl _ r rows)=>(HF r rows p).bind fun q=>if q.1.flat then some ⟨q.1,(q.2.drop off).take n,bx,9⟩else none
  |_=>none
 |_=>none
def pD(bx:List Bx)(x:AV):Option ((r:Ty)×(List r.D×List Bx×Nat)):=
 match x with
 | .ref b []=>
  match bx[b]? with
  |some (.sl d r rows)=>some ⟨r,rows,bx.set b .dead,d⟩
  |_=>none
 | .win b [] off n=>
  match bx[b]? with
  |some (.sl d r rows)=>some ⟨r,(rows.drop off).take n,bx.set b .dead,d⟩
  |_=>none
 |_=>none
def Jw.elem(T:Jw)(t:Nat):Option TI:=
 match(T.get t).map TI.desc with
 |some (.sl e)=>T.get e
 |_=>none
def Jw.N3(T:Jw)(t:Nat)(r:Ty):Bool:=
 match T.elem t with
 |some ti=>decide (ti.size=r.n)&&decide (ti.bytes≤512)&&decide (ti.row=some r)
 |none=>false
def Jw.isStr(T:Jw)(t:Nat):Bool:=
 match(T.get t).map TI.desc with
 |some .str=>true
 |_=>false
def Jw.AHb(T:Jw)(t:Nat):Bool:=
 match(T.get t).map TI.desc with
 |some (.sl _)=>true
 |_=>false
def fQ(T:Jw)(ts:Array TypeId)(σ:St)(a x:XV)(k:K Y):Option Y:=
 match ts[0]?,ts[1]? with
 |some t,some u=>
  if T.AHb u||T.isStr u then
   match a,x with
   | .c .nil,.c y=>
    (pB σ.bx y).bind fun s=>if T.N3 t s.1 then
     if s.2.1.length≤DE then k (.c (.ref s.2.2.1.length [])) { σ with bx:=s.2.2.1++[.sl s.2.2.2 s.1 s.2.1] }else none
     else none
   | .c a,.c y=>
    (pD σ.bx a).bind fun d=>if T.N3 t d.1 then(pB d.2.2.1 y).bind fun s=>
     (Q9 (β:=fun r=>List r.D) s.1 d.1 s.2.1).bind fun rows=>
      if d.2.1.length+rows.length≤DE then
       k (.c (.ref s.2.2.1.length [])) { σ with bx:=s.2.2.1++[.sl (min d.2.2.2 s.2.2.2) d.1 (d.2.1++rows)] }
      else none
     else none
   |_,_=>none
  else none
 |_,_=>none
def lp(T:Jw)(ts:Array TypeId)(σ:St)(x:XV)(k:K Y):Option Y:=
 match ts[0]?,x with
 |some t,.c (.win b [] off n)=>
  match σ.bx[b]? with
  |some (.sl d r rows)=>if T.N3 t r&&(r.flat&&decide (0<r.n))then k (.c .undef) { σ with bx:=σ.bx.set b (.sl d r ((rows.take off++List.replicate n r.z)++rows.drop (off+n))) }else none
  |_=>none
 |_,_=>none
def eD:XV→Option Int
 | .c (.v (.int _) n)=>some n
 |_=>none
def Ol(len:Nat)(lo hi:Option XV)(k:Nat→Nat→Option Y):Option Y:=
 let h:Option Int:=match hi with
  |none=>some (len:Int)
  |some x=>eD x
 let l:Option Int:=match lo with
  |none=>some 0
  |some x=>eD x
 match l,h with
 |some l,some h=>if 0≤l∧l≤h∧h≤(len:Int)then k l.toNat h.toNat else none
 |_,_=>none
def lu(T:Jw)(t:Nat)(σ:St)(x:XV)(lo hi:Option XV)(k:K Y):Option Y:=
 match x with
 | .c (.v .str s)=>if T.isStr t then Ol s.length lo hi fun l h=>k (.c (.v .str ((s.drop l).take (h-l)))) σ else none
 | .c (.sl s r rows)=>if T.N3 t r then Ol rows.length lo hi fun l h=>k (.c (.sl s r ((rows.drop l).take (h-l)))) σ else none
 | .c (.ref b p)=>
  match N8 σ.bx (.ref b p)with
  |some q=>if T.N3 t q.1 then Ol q.2.length lo hi fun l h=>k (.c (.win b p l (h-l))) σ else none
  |none=>none
 |_=>none
def ld(σ:St)(T:Jw)(t:Nat)(x i:XV)(k:K Y):Option Y:=
 match x,eD i with
 | .c (.sl s r rows),some i=>if T.N3 t r then(if 0≤i∧i<(rows.length:Int)then k (.c (.P8 s r (rowAt r rows i.toNat) 0)) σ else none)else none
 | .c (.ref b p),some i=>
  match N8 σ.bx (.ref b p)with
  |some q=>if T.N3 t q.1 then(if 0≤i∧i<(q.2.length:Int)then k (.c (.Jk b p i.toNat q.1.n 0)) σ else none)else none
  |none=>none
 | .c (.win b p off n),some i=>
  match N8 σ.bx (.ref b p)with
  |some q=>if T.N3 t q.1 then(if 0≤i∧i<(n:Int)then k (.c (.Jk b p (off+i.toNat) q.1.n 0)) σ else none)else none
  |none=>none
 |_,_=>none
def vR(T:Jw)(t:Nat)(x:XV)(f:Nat):Option XV:=
 match T.get t with
 |some ⟨_,_,.st fs,_⟩=>
  match fs[f]? with
  |some (o,_)=>match x with
   | .c (.Ip b j)=>some (.c (.Ip b (j+o)))
   | .c (.Jk b p i sz j)=>some (.c (.Jk b p i sz (j+o)))
   | .c (.P8 s r y j)=>some (.c (.P8 s r y (j+o)))
   |_=>none
  |none=>none
 |_=>none
def AFj(T:Jw)(t:Nat)(x:XV)(f:Nat):Option XV:=
 match T.get t,x with
 |some ⟨_,_,.st fs,_⟩,.agg l=>
  match fs[f]? with
  |some (o,u)=>
   match T.get u with
   |some ti=>if ti.desc.agg then some (.agg ((l.drop o).take ti.size))else(l[o]?).map .c
   |none=>none
  |none=>none
 |_,_=>none
def uQ(T:Jw)(src dst:Nat)(σ:St)(x:XV)(k:K Y):Option Y:=
 match(T.get src).map TI.desc,(T.get dst).map TI.desc,x with
 |some (.int _),some (.int κ),.c (.v (.int _) n)=>k (.c (.v (.int κ) (κ.wrap n))) σ
 |some .str,some .str,.c (.v .str s)=>k (.c (.v .str s)) σ
 |some .str,some (.sl e),.c (.v .str s)=>
  match(T.get e).map TI.desc with
  |some (.int .u8)=>if s.length≤DE then k (.c (.ref σ.bx.length [])) (σ.new (.sl 9 (.int .u8) (s.map fun c=>(c.toNat:Int))))else none
  |_=>none
 |some (.sl e),some .str,.c x=>
  match(T.get e).map TI.desc,NZ σ.bx (.sl (.int .u8)) x with
  |some (.int .u8),some l=>k (.c (.v .str (l.map fun n:Int=>UInt8.ofNat n.toNat))) σ
  |_,_=>none
 |_,_,_=>none
def uF(T:Jw)(t:Nat)(σ:St)(l c:XV)(k:K Y):Option Y:=
 match(T.get t).map TI.desc,eD l,eD c with
 |some (.sl e),some n,some m=>
  match Jw.kN T e with
  |some r=>if T.N3 t r then(if 0≤n∧n≤m∧m≤(DE:Int)then k (.c (.ref σ.bx.length [])) (σ.new (.sl 9 r (List.replicate n.toNat r.z)))else none)else none
  |none=>none
 |_,_,_=>none
def gr(T:Jw)(fs:List ADY):List AV→List (Nat×XV)→Option (List AV)
 |cs,[]=>some cs
 |cs,(i,x)::l=>
  match fs[i]? with
  |some (o,u)=>
   match T.get u with
   |some ti=>if x.cells.length=ti.size∧ti.size≠0∧x.cells.all AV.known=true then(Yb cs o x.cells).bind fun cs=>gr T fs cs l else none
   |none=>none
  |none=>none
def Yu(r:Ty):Nat→Nat→List (Nat×XV)→List Bx→Nat→Option (List r.D×List Bx×Nat)
 |_,0,[],bx,d=>some ([],bx,d)
 |i,n+1,(j,x)::l,bx,d=>
  if i=j then(AEN d r x bx).bind fun a=>(Yu r (i+1) n l a.2.1 a.2.2).map fun b=>(a.1::b.1,b.2)else none
 |i,n+1,[],bx,d=>(Yu r (i+1) n [] bx d).map fun b=>(r.z::b.1,b.2)
 |_,0,_::_,_,_=>none
def Rg(T:Jw)(t n:Nat)(parts:List (Nat×XV))(σ:St)(k:K Y):Option Y:=
 match(T.get t).map TI.desc with
 |some (.sl e)=>
  match Jw.kN T e with
  |some r=>if T.N3 t r&&decide (n≤1024)&&decide (r.n≤1024)then(Yu r 0 n parts σ.bx 9).bind fun a=>k (.c (.ref a.2.1.length [])) { σ with bx:=a.2.1++[.sl a.2.2 r a.1] }else none
  |none=>none
 |_=>none
def Xf(T:Jw)(t:Nat)(σ:St)(x i:XV)(k:K Y):Option Y:=
 match x,eD i with
 | .c (.v .str s),some i=>if T.isStr t then if 0≤i∧i<(s.length:Int)then k (.c (.v (.int .u8) ((s.getD i.toNat 0).toNat:Int))) σ else none else none
 |_,_=>none
def qk(x:XV)(i:Nat):Option XV:=
 match x with
 | .Nb l=>match l[i]? with
  |some (.inl a)=>some (.c a)
  |some (.inr q)=>some (.agg q)
  |none=>none
 |_=>none
def G1(m:QI):AV→AV
 | .ref b (s::p)=>if m.contains (some b)then .undef else .ref b (s::p)
 | .win b (s::p) i n=>if m.contains (some b)then .undef else .win b (s::p) i n
 | .Jk b (s::p) i sz j=>if m.contains (some b)then .undef else .Jk b (s::p) i sz j
 |x=>x
def Vi(m:QI):XV→XV
 | .c x=> .c (G1 m x)
 | .agg l=> .agg (l.map (G1 m))
 | .Nb l=> .Nb (l.map fun| .inl x=> .inl (G1 m x)| .inr q=> .inr (q.map (G1 m)))
def AD1(m:QI):Bx→Bx
 | .mem cs=> .mem (cs.map (G1 m))
 |x=>x
def St.aB(m:QI)(σ:St):St:=
 match m with
 |[]=>σ
 |_::_=>{ tm:=σ.tm.map (Vi m),bx:=σ.bx.map (AD1 m) }
def nW(c:Qf)(args:List XV)(σ:St)(k:K Y):Option Y:=
 if args.length=c.ins.D8.length then
  match c.ins.fit σ.bx.length c.ins.m0 args (c.ins.opens σ.bx)with
  |some (v,m)=>(c.g v).bind fun u=>
   let Jo:=ZA m (c.ins.opens σ.bx).length
   let σ1:=({ σ with bx:=c.ins.opens σ.bx }:St).aB m
   k (fX c.outs.D8 u.1 Jo) { σ1 with bx:=bD Jo 0 c.outs.G8 u.2 (Cx σ1.bx m) }
  |none=>none
 else none
def cA(σ:St)(x:XV)(k:K Y):Option Y:=
 match x with
 | .c (.win b [] off n)=>
  (pD σ.bx (.win b [] off n)).bind fun s=>k (.c (.ref s.2.2.1.length [])) { σ with bx:=s.2.2.1++[.sl s.2.2.2 s.1 s.2.1] }
 |x=>k x σ
def xU(l:List XV):Option ABa:=
 match l with
 |[]=>some []
 | .c (.Ip b 0)::l=>(xU l).map fun r=>b::r
 |_=>none
def ui(big:Bool)(a b:XV)(k:AV→Option Y):Option Y:=
 match a,b with
 | .c (.v (.int j) x),.c (.v (.int j') y)=>
  if j=j' then(if big then k (.v (.int j) (if y>x then y else x))else k (.v (.int j) (if y<x then y else x)))else none
 |_,_=>none
def X4(T:Jw)(Γ:Nat→Option Qf)(o:Oper)(σ:St)(k:K Y):Option Y:=
 match o.op with
 | .move x=>k (σ.ev x) σ
 | .assign x=>cA σ (σ.ev x) k
 | .pick c a b=>match σ.ev c with
  | .c (.v .bool x)=>AFs x (σ.ev a) (σ.ev b) σ k
  |_=>none
 | .alloc t=>match Jw.kN T t with
  |some r=>k (.c (.Ip σ.bx.length 0)) (σ.new (.mem (cg r)))
  |none=>none
 | .box t x=>match T.get t with
  |some ti=>if(σ.ev x).cells.length=ti.size∧ti.size≠0∧(σ.ev x).cells.all AV.known=true then k (.c (.Ip σ.bx.length 0)) (σ.new (.mem (σ.ev x).cells))else none
  |none=>none
 | .build t parts=>match T.get t,Jw.kN T t with
  |some ⟨_,_,.st fs,_⟩,some r=>match gr T fs (cg r) (parts.toList.map fun q=>(q.1,σ.ev q.2))with
   |some cs=>k (.agg cs) σ
   |none=>none
  |_,_=>none
 | .buildSlice t n parts=>Rg T t n (parts.toList.map fun q=>(q.1,σ.ev q.2)) σ k
 | .load t a=>match nI T t σ (σ.ev a)with
  |some x=>k x σ
  |none=>none
 | .store t a x=>match T.get t with
  |some ti=>if(σ.ev x).cells.length=ti.size∧ti.size≠0∧(σ.ev x).cells.all AV.known=true then(match Mb σ (σ.ev a) (σ.ev x)with
   |some σ=>k (.c .undef) σ
   |none=>none)else none
  |none=>none
 | .nilCheck x=>match σ.ev x with
  | .c (.Ip b j)=>k (.c (.Ip b j)) σ
  | .c (.Jk b p i sz j)=>k (.c (.Jk b p i sz j)) σ
  | .c (.P8 s r y j)=>k (.c (.P8 s r y j)) σ
  | .c (.fn f Ki)=>k (.c (.fn f Ki)) σ
  |_=>none
 | .binOp op t x y _=>xe T t op (σ.ev x) (σ.ev y) fun a=>k (.c a) σ
 | .unOp op _ x=>unX op (σ.ev x) fun a=>k (.c a) σ
 | .convert s d x=>uQ T s d σ (σ.ev x) k
 | .makeFunc (.func f) first Ki=>if first.size=0 then(match xU (Ki.toList.map σ.ev)with
  |some bs=>k (.c (.fn f bs)) σ
  |none=>none)else none
 | .makeSlice t l c=>uF T t σ (σ.ev l) (σ.ev c) k
 | .slice t x lo hi none=>lu T t σ (σ.ev x) (lo.map σ.ev) (hi.map σ.ev) k
 | .fieldAddr t x f=>match vR T t (σ.ev x) f with
  |some y=>k y σ
  |none=>none
 | .field t x f=>match AFj T t (σ.ev x) f with
  |some y=>k y σ
  |none=>none
 | .indexAddr t x i=>ld σ T t (σ.ev x) (σ.ev i) k
 | .index t x i=>Xf T t σ (σ.ev x) (σ.ev i) k
 | .extract x i=>match qk (σ.ev x) i with
  |some y=>k y σ
  |none=>none
 | .call { callee:= .value f,args,.. }=>match σ.ev f with
  | .c (.fn f Ki)=>match Γ f with
   |some c=>nW c (args.toList.map σ.ev++Ki.map fun b=> .c (.Ip b 0)) σ k
   |none=>none
  | .c (.sB f rows)=>match Γ f with
   |some c=>nW c (args.toList.map σ.ev++rows.map fun q=> .c (.P8 false q.1 q.2 0)) σ k
   |none=>none
  |_=>none
 | .call { callee:= .builtin .len,args,argTypes }=>match args.toList.map σ.ev,argTypes[0]? with
  |[.c (.v .str s)],some t=>if T.isStr t then k (.c (.v (.int .i64) (s.length:Int))) σ else none
  |[.c x],some t=>if T.AHb t then(match lenOf σ.bx x with
   |some n=>k (.c (.v (.int .i64) (n:Int))) σ
   |none=>none)else none
  |_,_=>none
 | .call { callee:= .builtin .append,args,argTypes }=>match args.toList.map σ.ev with
  |[a,x]=>fQ T argTypes σ a x k
  |_=>none
 | .call { callee:= .builtin .clear,args,argTypes }=>match args.toList.map σ.ev with
  |[x]=>lp T argTypes σ x k
  |_=>none
 | .call { callee:= .builtin .max,args,.. }=>match args.toList.map σ.ev with
  |[a,x]=>ui true a x fun a=>k (.c a) σ
  |_=>none
 | .call { callee:= .builtin .min,args,.. }=>match args.toList.map σ.ev with
  |[a,x]=>ui false a x fun a=>k (.c a) σ
  |_=>none
 |_=>none
end ops
end Go.Fw
end
section
namespace Go.Fw
section
variable{Y:Type}
structure aZ where
 T:Jw
 Γ:Nat→Option Qf
 hint:Nat→List Nat
def g_(hint:ABa):XV→Bool
 | .c (.Ip b _)=>hint.contains b
 | .c (.Jk b _ _ _ _)=>hint.contains b
 | .c (.P8 _ _ _ _)=>true
 |_=>false
def kU(hint:ABa)(σ:St):Op→Bool
 | .assign x=>match σ.ev x with
  | .c (.win _ [] _ _)=>false
  |_=>true
 | .move _| .pick .. | .nilCheck _| .binOp .. | .unOp .. | .fieldAddr .. | .field .. | .indexAddr .. | .index .. | .extract .. | .build .. =>true
 | .slice _ _ _ _ none=>true
 | .load _ a=>g_ hint (σ.ev a)
 | .call { callee:= .builtin .len,.. }=>true
 | .call { callee:= .builtin .max,.. }=>true
 | .call { callee:= .builtin .min,.. }=>true
 |_=>false
def Kz(Γ:Nat→Option Qf)(σ:St):Op→List Nat
 | .store _ a _=>match σ.ev a with
  | .c (.Ip b _)=>[b]
  | .c (.Jk b _ _ _ _)=>[b]
  |_=>[]
 | .call { callee:= .value f,args,.. }=>match σ.ev f with
  | .c (.fn f Ki)=>match Γ f with
   |some c=>match c.ins.fit σ.bx.length c.ins.m0 (args.toList.map σ.ev++Ki.map fun b=> .c (.Ip b 0)) (c.ins.opens σ.bx)with
    |some (_,m)=>m.filterMap id
    |none=>[]
   |none=>[]
  | .c (.sB f rows)=>match Γ f with
   |some c=>match c.ins.fit σ.bx.length c.ins.m0 (args.toList.map σ.ev++rows.map fun q=> .c (.P8 false q.1 q.2 0)) (c.ins.opens σ.bx)with
    |some (_,m)=>m.filterMap id
    |none=>[]
   |none=>[]
  |_=>[]
 | .call { callee:= .builtin .clear,args,.. }=>match args.toList.map σ.ev with
  |[.c (.win b _ _ _)]=>[b]
  |_=>[]
 |_=>[]
def tt:XV:= .c (.v .bool true)
def ff:XV:= .c (.v .bool false)
def AAg(C:aZ)(ops:Array Oper)(o:Oper)(kn:St→Option Y)(σ:St):Option Y:=
 match o.guard with
 |none=>X4 C.T C.Γ o σ fun x σ' =>kn (σ'.put o.dst x)
 |some (j,want)=>
  match(ops[j]?).bind (·.dst)with
  |some t=>
   match σ.tm[t]? with
   |some (.c (.v .bool b))=>
    let yes (σ:St):Option Y:=X4 C.T C.Γ o σ fun x σ' =>kn (σ'.put o.dst x)
    let no (σ:St):Option Y:=kn (σ.put o.dst (.Nb []))
    cond b ((if want then yes else no) (σ.put (some t) tt)) ((if want then no else yes) (σ.put (some t) ff))
   |some (.Nb [])=>kn (σ.put o.dst (.Nb []))
   |_=>none
  |none=>none
def vl(C:aZ)(all:Array Oper):List Oper→(St→Option Y)→St→Option Y
 |[],kn,σ=>kn σ
 |o::rest,kn,σ=>AAg C all o (fun σ' =>vl C all rest kn σ') σ
def ABY(C:aZ)(ops:Array Oper)(i:Nat)(kn:St→Option Y)(σ:St):Option Y:=
 match ops[i]? with
 |none=>none
 |some o=>AAg C ops o kn σ
def ky(bx:List Bx)(b:Nat):Bool:=
 match bx[b]? with
 |some .dead=>true
 |some _=>false
 |none=>true
def idle(ops:Array Oper)(σ:St)(o:Oper):Bool:=
 match o.guard with
 |none=>false
 |some (j,want)=>
  match(ops[j]?).bind (·.dst)with
  |some t=>
   match σ.tm[t]? with
   |some (.c (.v .bool b))=>b !=want
   |some (.Nb [])=>true
   |_=>false
  |none=>false
def rE(hint:ABa)(ops:Array Oper)(listed:Array Bool)(σ:St)(i:Nat):Bool:=
 match ops[i]? with
 |some o=>(kU hint σ o.op||idle ops σ o)&&Region.free .any ops listed i
 |none=>false
def vW(f:Nat→List Bool→Option Y):List Nat→List Bool→Option Y
 |[],_=>none
 |[i],ω=>f i ω
 |i::_::_,[]=>f i []
 |i::_::_,true::ω=>f i ω
 |_::j::r,false::ω=>vW f (j::r) ω
def U3(C:aZ)(hint:ABa)(ops:Array Oper)(kn:List Bool→St→Option Y):Nat→Array Bool→List Bool→St→Option Y
 |fuel,listed,ω,σ=>
  if hint.all (fun b=> !ky σ.bx b)then
   match Region.ready .any ops listed with
   |[]=>kn ω σ
   |rs=>
    match fuel with
    |0=>none
    |fuel+1=>
     match rs.find? (rE hint ops listed σ)with
     |some i=>ABY C ops i (fun σ' =>U3 C hint ops kn fuel (listed.setIfInBounds i true) ω σ') σ
     |none=>vW (fun i ω=>
      match ops[i]? with
      |some o=>if(Kz C.Γ σ o.op).all (fun b=> !hint.contains b)then ABY C ops i (fun σ' =>U3 C hint ops kn fuel (listed.setIfInBounds i true) ω σ') σ else none
      |none=>none) rs ω
  else none
def first:Code→Nat
 | .region id _ _=>id
 | .seq a _=>first a
 | .cond _ a _=>first a
 | .block _ a=>first a
 | .loop a=>first a
 | .scope a=>first a
 |_=>0
abbrev KN(Y:Type):=List Bool→St→Option Y
def run(C:aZ)(J:Nat→St→Option Y):Code→KN Y→(Nat→KN Y)→KN Y→KN Y
 | .skip,kn,_,_,ω,σ=>kn ω σ
 | .region id ops draw,kn,_,_,ω,σ=>
  if draw then(if Region.noSelect ops then U3 C (C.hint id) ops kn ops.size (Array.replicate ops.size false) ω σ else none)else vl C ops ops.toList (kn ω) σ
 | .seq a b,kn,kx,kr,ω,σ=>run C J a (fun ω σ=>run C J b kn kx kr ω σ) kx kr ω σ
 | .cond (.tmp t) a b,kn,kx,kr,ω,σ=>
  match σ.tm[t]? with
  |some (.c (.v .bool x))=>cond x (run C J a kn kx kr ω (σ.put (some t) tt)) (run C J b kn kx kr ω (σ.put (some t) ff))
  |_=>none
 | .block id body,kn,kx,kr,ω,σ=>run C J body kn (fun j ω σ=>if j=id then kn ω σ else kx j ω σ) kr ω σ
 | .loop body,_,_,_,_,σ=>J (first body) σ
 | .exit id,_,kx,_,ω,σ=>kx id ω σ
 | .ret,_,_,kr,ω,σ=>kr ω σ
 |_,_,_,_,_,_=>none
def find(C:aZ)(J:Nat→St→Option Y)(ℓ :Nat):Code→KN Y→(Nat→KN Y)→KN Y→Option (KN Y)
 | .seq a b,kn,kx,kr=>
  match find C J ℓ a (fun ω σ=>run C J b kn kx kr ω σ) kx kr with
  |some f=>some f
  |none=>find C J ℓ b kn kx kr
 | .cond _ a b,kn,kx,kr=>
  match find C J ℓ a kn kx kr with
  |some f=>some f
  |none=>find C J ℓ b kn kx kr
 | .block id body,kn,kx,kr=>find C J ℓ body kn (fun j ω σ=>if j=id then kn ω σ else kx j ω σ) kr
 | .loop body,_,kx,kr=>
  if first body= ℓ then some (fun ω σ=>run C J body (fun _ σ=>J ℓ σ) kx kr ω σ)else find C J ℓ body (fun _ σ=>J (first body) σ) kx kr
 |_,_,_,_=>none
def AGZ(T:Jw)(σ:St):ResultVar→Option XV
 | .tmp t=>σ.tm[t]?
 | .cell a t=>match σ.tm[a]? with
  |some x=>nI T t σ x
  |none=>none
def xY:List XV→Option (List (AV ⊕ List AV))
 |[]=>some []
 | .c x::l=>(xY l).map fun r=> .inl x::r
 | .agg q::l=>(xY l).map fun r=> .inr q::r
 |_=>none
def jS(T:Jw)(σ:St)(rs:List ResultVar):Option XV:=
 match rs.mapM (AGZ T σ)with
 |some [x]=>some x
 |some l=>(xY l).map .Nb
 |none=>none
def Ug:Nat→Nat→List BP→QI
 |_,_,[]=>[]
 |i,n,p::l=>(match p with| .gone=>none|_=>if i<n then some i else none)::Ug (i+1) n l
def AV.qP(b:Nat)(r:Ty)(rows:List r.D):AV→AV
 | .ref k []=>if k=b then .sl true r rows else .ref k []
 |x=>x
def XV.qP(b:Nat)(r:Ty)(rows:List r.D):XV→XV
 | .c x=> .c (x.qP b r rows)
 |x=>x
def Bx.qP(b:Nat)(r:Ty)(rows:List r.D):Bx→Bx
 | .mem cs=> .mem (cs.map (AV.qP b r rows))
 |x=>x
def St.qP(b:Nat)(σ:St):St:=
 match σ.bx[b]? with
 |some (.sl _ r rows)=>{ tm:=σ.tm.map (XV.qP b r rows),bx:=(σ.bx.set b .dead).map (Bx.qP b r rows) }
 |_=>σ
def HK:List AP→List AV→St→St
 | .sl true _::l,.ref b []::xs,σ=>HK l xs (σ.qP b)
 |_::l,_::xs,σ=>HK l xs σ
 |_,_,σ=>σ
def bt:List (AP ⊕ List AP)→List (AV ⊕ List AV)→St→St
 | .inl p::l,.inl x::xs,σ=>bt l xs (HK [p] [x] σ)
 | .inr p::l,.inr x::xs,σ=>bt l xs (HK p x σ)
 |_::l,_::xs,σ=>bt l xs σ
 |_,_,σ=>σ
def AWz:XP→XV→St→St
 | .c p,.c x,σ=>HK [p] [x] σ
 | .agg l,.agg xs,σ=>HK l xs σ
 | .Nb l,.Nb xs,σ=>bt l xs σ
 |_,_,σ=>σ
def mS(l:List (Nat×XP))(x:XV)(σ:St):St:=
 match l with
 |(_,p)::_=>AWz p x σ
 |[]=>σ
def sQ(T:Jw)(c:Qf)(rs:List ResultVar)(σ:St):Option c.outs.V:=
 (jS T σ rs).bind fun x=>
  let σ:=mS c.outs.D8 x σ
  (jS T σ rs).bind fun x=>(c.outs.fit σ.bx.length (Ug 0 c.ins.G8.length c.outs.G8) [x] (c.outs.opens σ.bx)).map fun q=>q.1
def Cy(C:aZ)(c:Qf)(fn:Func)(J:Nat→St→Option c.outs.V)(ω:List Bool)(v:c.ins.V):Option c.outs.V:=
 match fn.body with
 |some code=>run C J code (fun _=>sQ C.T c fn.results.toList) (fun _ _ _=>none) (fun _=>sQ C.T c fn.results.toList) ω (c.ins.st fn.ntmps v)
 |none=>none
def Hg(C:aZ)(c:Qf)(fn:Func)(J:Nat→St→Option c.outs.V)(ℓ :Nat)(ω:List Bool)(σ:St):Option c.outs.V:=
 match fn.body with
 |some code=>
  match find C J ℓ code (fun _=>sQ C.T c fn.results.toList) (fun _ _ _=>none) (fun _=>sQ C.T c fn.results.toList)with
  |some f=>f ω σ
  |none=>none
 |none=>none
def QQ(bs:List BP):List (Nat×XP)→St→St
 |[],σ=>σ
 |(i,.c (.sl true r))::l,σ=>
  match σ.tm[i]? with
  |some (.c x)=>QQ bs l (HK [.sl true r] [x] σ)
  |_=>QQ bs l σ
 |(i,.c (.ptr k _))::l,σ=>
  match bs[k]?,σ.tm[i]? with
  |some (.mem ps),some (.c (.Ip b _))=>
   match σ.bx[b]? with
   |some (.mem cs)=>QQ bs l (HK ps cs σ)
   |_=>QQ bs l σ
  |_,_=>QQ bs l σ
 |_::l,σ=>QQ bs l σ
def AV.uV:AV→Bool
 | .ref _ _| .win _ _ _ _| .sl _ _ _| .nil=>true
 |_=>false
def St.forget(b j:Nat)(σ:St):St:=
 match σ.bx[b]? with
 |some (.mem cs)=>
  match cs[j]? with
  |some x=>if x.uV then{ σ with bx:=σ.bx.set b (.mem (cs.set j (.ref σ.bx.length [])))++[.dead] }else σ
  |none=>σ
 |_=>σ
def X0(bs:List BP)(b:Nat):Nat→List AP→St→St
 |_,[],σ=>σ
 |j,p::l,σ=>X0 bs b (j+1) l (match p with
  | .ref q=>match bs[q]? with
   |some .gone=>σ.forget b j
   |_=>σ
  |_=>σ)
def eK(bs:List BP):List (Nat×XP)→St→St
 |[],σ=>σ
 |(i,p)::l,σ=>eK bs l (match p with
  | .c (.ptr k _)=>match bs[k]?,σ.tm[i]? with
   |some (.mem ps),some (.c (.Ip b _))=>X0 bs b 0 ps σ
   |_,_=>σ
  |_=>σ)
def jump(nb:Nat)(s:BE)(f:s.V→Option Y)(σ:St):Option Y:=
 if nb≤s.G8.length then
  let σ:=eK s.G8 s.D8 (QQ s.G8 s.D8 σ)
  (s.fit σ.bx.length (Ug 0 nb s.G8) σ.tm (s.opens σ.bx)).bind fun q=>f q.1
 else none
end
end Go.Fw
end
section
namespace Go.Fw
def Bd(w:World)(b o:Nat)(cs:List Value):Prop:= ∀j v,cs[j]? =some v→w.cell? ⟨b,o+j,none⟩=some v
def Rd(w:World)(B:Nat→Prop):(t:Ty)→List Value→t.D→Prop
 | .int k,vs,x=>vs=[.int k x]
 | .bool,vs,x=>vs=[.bool x]
 | .str,vs,x=>vs=[.string ⟨x.toArray⟩]
 | .sl r,vs,x=> ∃a cap,vs=[.slice a (List.length x) cap]∧List.length x≤cap∧(List.length x=0∨ ∃b o,a=some ⟨b,o,none⟩∧B b∧
  ∀(i:Nat) (y:r.D),x[i]? =some y→ ∃cs,cs.length=r.n∧Bd w b (o+i*r.n) cs∧Rd w B r cs y)
 | .unit,vs,_=>vs=[]
 | .cons c r,vs,x=> ∃v l,vs=v::l∧Rd w B c [v] x.1∧Rd w B r l x.2
def w_(fr:ADY)(n:Nat):Prop:= ∀i,i<n→ ¬(fr.1≤i∧i<fr.2)
def mk:Ty→Nat
 | .int .u8=>0
 |_=>1
def Ow(w:World)(S:Nat→Prop):(d:Nat)→(t:Ty)→List Value→t.D→List Nat→Prop
 |0,.sl r,vs,x,F=>Rd w S (.sl r) vs x∧F=[]
 |d+1,.sl r,vs,x,F=> ∃a cap,vs=[.slice a (List.length x) cap]∧List.length x≤cap∧
  ((
   cap=0∧F=[])∨ ∃b o arr ty fr Fs,a=some ⟨b,o,none⟩∧w.heap[b]? =some (.cells arr ty fr)∧o+cap*r.n≤arr.size∧w_ fr (arr.size+mk r)∧
   F=b::List.flatten Fs∧Fs.length=List.length x∧
   ∀(i:Nat) (y:r.D) (G:ABa),x[i]? =some y→Fs[i]? =some G→ ∃cs,cs.length=r.n∧Bd w b (o+i*r.n) cs∧Ow w S d r cs y G)
 |d,.cons c r,vs,x,F=> ∃v l F1 F2,vs=v::l∧F=F1++F2∧Ow w S d c [v] x.1 F1∧Ow w S d r l x.2 F2
 |_,.unit,vs,_,F=>vs=[]∧F=[]
 |_,.int k,vs,x,F=>vs=[.int k x]∧F=[]
 |_,.bool,vs,x,F=>vs=[.bool x]∧F=[]
 |_,.str,vs,x,F=>vs=[.string ⟨x.toArray⟩]∧F=[]
theorem lx{w B}:∀{t:Ty} {vs x},Rd w B t vs x→vs.length=t.n
 | .int _,_,_,h=>by simp only[Rd]at h;subst h;rfl
 | .bool,_,_,h=>by simp only[Rd]at h;subst h;rfl
 | .str,_,_,h=>by simp only[Rd]at h;subst h;rfl
 | .sl _,_,_,h=>by simp only[Rd]at h;obtain⟨_,_,h,_⟩:=h;subst h;rfl
 | .unit,_,_,h=>by simp only[Rd]at h;subst h;rfl
 | .cons _ _,_,_,h=>by
  simp only[Rd]at h;obtain⟨_,_,rfl,_,h⟩:=h;simp[Ty.n,lx h]
theorem YD{w S}:∀{d} {t:Ty} {vs x F},Ow w S d t vs x F→vs.length=t.n
 |_,.int _,_,_,_,h=>by simp only[Ow]at h;rw[h.1];rfl
 |_,.bool,_,_,_,h=>by simp only[Ow]at h;rw[h.1];rfl
 |_,.str,_,_,_,h=>by simp only[Ow]at h;rw[h.1];rfl
 |0,.sl _,_,_,_,h=>by grind[Ow,lx]
 |_+1,.sl _,_,_,_,h=>by simp only[Ow]at h;obtain⟨_,_,h,_⟩:=h;subst h;rfl
 |_,.unit,_,_,_,h=>by simp only[Ow]at h;rw[h.1];rfl
 |_,.cons _ _,_,_,_,h=>by
  simp only[Ow]at h;obtain⟨_,_,_,_,rfl,_,_,h⟩:=h;simp[Ty.n,YD h]
theorem Bd.of_block{w w':World}{b o:Nat}{cs:List Value}(h:Bd w b o cs)(hb:w'.heap[b]? =w.heap[b]?):Bd w' b o cs:=
 fun j v hj=>(World.cell?_of_block (a:=⟨b,o+j,none⟩) hb).trans (h j v hj)
theorem F9{w w':World}{B B':Nat→Prop}(hB:∀b,B b→B' b)(hw:∀b,B b→w'.heap[b]? =w.heap[b]?):∀{t:Ty} {vs x},Rd w B t vs x→Rd w' B' t vs x
 | .int _,_,_,h=>by grind[Rd]
 | .bool,_,_,h=>by grind[Rd]
 | .str,_,_,h=>by grind[Rd]
 | .unit,_,_,h=>by grind[Rd]
 | .sl r,_,_,h=>by
  simp only[Rd]at h⊢;obtain⟨a,cap,h1,h2,h3⟩:=h;refine⟨a,cap,h1,h2,h3.imp id ?_⟩
  rintro⟨b,o,ha,hb,h⟩
  refine⟨b,o,ha,hB b hb,fun i y hy=> ?_⟩;obtain⟨cs,hl,hc,hr⟩:=h i y hy;exact⟨cs,hl,hc.of_block (hw b hb),F9 hB hw hr⟩
 | .cons _ _,_,_,h=>by
  simp only[Rd]at h⊢;obtain⟨v,l,h1,h2,h3⟩:=h;exact⟨v,l,h1,F9 hB hw h2,F9 hB hw h3⟩
theorem Eh{w w':World}{S S':Nat→Prop}(hS:∀b,S b→S' b)(hw:∀b,S b→w'.heap[b]? =w.heap[b]?):
  ∀{d} {t:Ty} {vs x F},(∀b∈F,w'.heap[b]? =w.heap[b]?)→Ow w S d t vs x F→Ow w' S' d t vs x F
 |_,.int _,_,_,_,_,h=>by grind[Ow]
 |_,.bool,_,_,_,_,h=>by grind[Ow]
 |_,.str,_,_,_,_,h=>by grind[Ow]
 |_,.unit,_,_,_,_,h=>by grind[Ow]
 |0,.sl r,_,_,_,_,h=>by
  grind[Ow,F9]
 |d+1,.sl r,_,x,F,hF,h=>by
  simp only[Ow]at h⊢;obtain⟨a,cap,h1,h2,h3⟩:=h;refine⟨a,cap,h1,h2,h3.imp id ?_⟩
  rintro⟨b,o,arr,ty,fr,Fs,ha,hb,h4,h5,h6,h7,h⟩
  subst h6;have hbb:=hF b (by simp);refine⟨b,o,arr,ty,fr,Fs,ha,hbb.trans hb,h4,h5,rfl,h7,fun i y G hy hG=> ?_⟩;obtain⟨cs,hl,hc,hr⟩:=h i y G hy hG;refine⟨cs,hl,hc.of_block hbb,Eh hS hw (fun c hc=>hF c ?_) hr⟩;grind[List.mem_cons_of_mem,List.mem_flatten,List.mem_of_getElem?]
 |_,.cons _ _,_,_,_,hF,h=>by
  simp only[Ow]at h⊢;obtain⟨v,l,F1,F2,h1,h2,h3,h4⟩:=h;subst h2;exact⟨v,l,F1,F2,h1,rfl,Eh hS hw (fun c hc=>hF c (by simp[hc])) h3,Eh hS hw (fun c hc=>hF c (by simp[hc])) h4⟩
theorem YF{w:World}{S:Nat→Prop}:∀{d} {t:Ty} {vs x F},Ow w S d t vs x F→Rd w (fun b=>S b∨b∈F) t vs x
 |_,.int _,_,_,_,h=>by grind[Ow,Rd]
 |_,.bool,_,_,_,h=>by grind[Ow,Rd]
 |_,.str,_,_,_,h=>by grind[Ow,Rd]
 |_,.unit,_,_,_,h=>by grind[Ow,Rd]
 |0,.sl r,_,_,_,h=>by
  simp only[Ow]at h;simp_all
 |d+1,.sl r,_,x,F,h=>by
  simp only[Ow]at h;simp only[Rd];obtain⟨a,cap,h1,h2,h3⟩:=h;refine⟨a,cap,h1,h2,?_⟩;rcases h3 with⟨hc,_⟩|⟨b,o,arr,ty,fr,Fs,ha,hb,h4,h5,h6,h7,h⟩
  ·omega
  ·refine .inr ⟨b,o,ha,.inr (by simp[h6]),fun i y hy=> ?_⟩
   have hi:i<Fs.length:=by
    grind
   obtain⟨cs,hl,hc,hr⟩:=h i y Fs[i] hy (AMt hi);refine⟨cs,hl,hc,F9 ?_ (fun _ _=>rfl) (YF hr)⟩;grind[List.mem_cons_of_mem,List.mem_flatten,List.getElem_mem]
 |_,.cons _ _,_,_,_,h=>by
  simp only[Ow]at h;simp only[Rd];obtain⟨v,l,F1,F2,h1,h2,h3,h4⟩:=h;subst h2;refine⟨v,l,h1,F9 ?_ (fun _ _=>rfl) (YF h3),F9 ?_ (fun _ _=>rfl) (YF h4)⟩
  all_goals grind
theorem KG{w:World}{S:Nat→Prop}:∀{d d'} {t:Ty} {vs x F},d≤d'→Ow w S d' t vs x F→
  ∃F1 F2,F.Perm (F1++F2)∧Ow w (fun b=>S b∨b∈F2) d t vs x F1
 |_,_,.int _,_,_,_,_,h=>by simp only[Ow]at h⊢;simp_all
 |_,_,.bool,_,_,_,_,h=>by simp only[Ow]at h⊢;simp_all
 |_,_,.str,_,_,_,_,h=>by simp only[Ow]at h⊢;simp_all
 |_,_,.unit,_,_,_,_,h=>by simp only[Ow]at h⊢;simp_all
 |0,d',.sl r,_,x,F,_,h=>by
  refine⟨[],F,by simp,?_⟩;simp only[Ow];exact⟨YF h,trivial⟩
 |d+1,0,.sl r,_,x,F,hd,h=>by omega
 |d+1,d'+1,.sl r,_,x,F,hd,h=>by
  simp only[Ow]at h⊢;obtain⟨a,cap,h1,h2,h3⟩:=h;rcases h3 with⟨hc,hF⟩|⟨b,o,arr,ty,fr,Fs,ha,hb,h4,h5,h6,h7,h⟩
  ·simp_all
  ·have key:∀(n:Nat) (Fs:List ABa) (y:List r.D),Fs.length=n→y.length=n→(∀(i:Nat) (z:r.D) (G:ABa),y[i]? =some z→Fs[i]? =some G→ ∃cs,cs.length=r.n∧Bd w b (o+i*r.n) cs∧Ow w S d' r cs z G)→
     ∃(Gs:List ABa) (F2:ABa),Fs.flatten.Perm (Gs.flatten++F2)∧Gs.length=n∧ ∀(i:Nat) (z:r.D) (G:ABa),y[i]? =some z→Gs[i]? =some G→ ∃cs,cs.length=r.n∧Bd w b (o+i*r.n) cs∧Ow w (fun b=>S b∨b∈F2) d r cs z G:=by
    intro n
    induction n with
    |zero=>
     simp_all
    |succ n ih=>
     intro Fs y hF hy hh;obtain⟨Fs',G0,rfl⟩:∃l a,Fs=l++[a]:=⟨Fs.dropLast,Fs.getLast (by grind),(List.dropLast_concat_getLast _).symm⟩;obtain⟨y',z0,rfl⟩:∃l a,y=l++[a]:=⟨y.dropLast,y.getLast (by grind),(List.dropLast_concat_getLast _).symm⟩;simp only[AQU,AOw,ARW]at hF hy;obtain⟨Gs,F2,hp,hl,hg⟩:=ih Fs' y' (by omega) (by omega) (fun i z G hz hG=>hh i z G
      (by grind) (by grind))
     obtain⟨cs,aS,hc,ho⟩:=hh n z0 G0 (by simp_all) (by simp_all);obtain⟨H1,H2,hhp,hho⟩:=KG (d:=d) (d':=d') (by omega) ho;refine⟨Gs++[H1],F2++H2,?_,by simp[hl],?_⟩
     ·grind
     ·intro i z G hz hG
      by_cases hi:i<n
      ·rw[AO2 (by omega)]at hz hG
       obtain⟨cs,e1,e2,e3⟩:=hg i z G hz hG;exact⟨cs,e1,e2,Eh (by grind) (fun _ _=>rfl) (fun _ _=>rfl) e3⟩
      ·have:i=n:=by
        grind
       subst this;rw[AQI (by omega)]at hz hG;simp[show i-y'.length=0 by omega,show i-Gs.length=0 by omega]at hz hG;subst hz hG;exact⟨cs,aS,hc,Eh (by grind) (fun _ _=>rfl) (fun _ _=>rfl) hho⟩
   obtain⟨Gs,F2,hp,hl,hg⟩:=key _ Fs x h7 rfl h;refine⟨b::Gs.flatten,F2,?_,a,cap,h1,h2,.inr ⟨b,o,arr,ty,fr,Gs,ha,hb,h4,h5,rfl,hl,hg⟩⟩;simp_all
 |d,d',.cons _ _,_,_,_,hd,h=>by
  simp only[Ow]at h⊢;obtain⟨v,l,F1,F2,h1,h2,h3,h4⟩:=h;obtain⟨A1,A2,pa,oa⟩:=KG hd h3;obtain⟨B1,B2,pb,ob⟩:=KG hd h4;refine⟨A1++B1,A2++B2,?_,v,l,A1,B1,h1,rfl,Eh (by grind) (fun _ _=>rfl) (fun _ _=>rfl) oa,Eh (by grind) (fun _ _=>rfl) (fun _ _=>rfl) ob⟩;grind
def RB(w:World):(t:Ty)→List Value→t.D→Nat→Prop
 | .sl r,vs,x,c=> ∃b o len cap,vs=[.slice (some ⟨b,o,none⟩) len cap]∧0<List.length x∧
  (c=b∨ ∃(i:Nat) (y:r.D) (cs:List Value),x[i]? =some y∧cs.length=r.n∧Bd w b (o+i*r.n) cs∧RB w r cs y c)
 | .cons c r,vs,x,d=> ∃v l,vs=v::l∧(RB w c [v] x.1 d∨RB w r l x.2 d)
 |_,_,_,_=>False
theorem Bd.unique{w:World}{b o:Nat}{cs ds:List Value}(h:Bd w b o cs)(k:Bd w b o ds)(hl:cs.length=ds.length):cs=ds:=by
 apply List.ext_getElem hl;intro i h1 h2;have e1:=h i _ (AMt h1);have e2:=k i _ (AMt h2);simp_all
theorem vH{w:World}{B:Nat→Prop}{c:Nat}:∀{t:Ty} {vs x},Rd w B t vs x→RB w t vs x c→B c
 | .int _,_,_,_,h=>by simp[RB]at h
 | .bool,_,_,_,h=>by simp[RB]at h
 | .str,_,_,_,h=>by simp[RB]at h
 | .unit,_,_,_,h=>by simp[RB]at h
 | .sl r,_,x,h,k=>by
  simp only[Rd]at h;simp only[RB]at k;obtain⟨a,cap,rfl,_,h⟩:=h;obtain⟨b,o,len,cap',e,hl,k⟩:=k;simp only[AQ_,Value.slice.injEq,AUD]at e;obtain⟨rfl,rfl,rfl⟩:=e;rcases h with h|⟨b',o',e,hb,h⟩
  ·omega
  simp only[AM7,Addr.mk.injEq,AUD]at e;obtain⟨rfl,rfl⟩:=e;rcases k with rfl|⟨i,y,cs,hy,aS,hca,k⟩
  ·omega
  ·obtain⟨ds,d1,d2,d3⟩:=h i y hy
   have:=hca.unique d2 (by omega);subst this;exact vH d3 k
 | .cons _ _,_,_,h,k=>by
  simp only[Rd]at h;simp only[RB]at k;obtain⟨v,l,rfl,h1,h2⟩:=h;obtain⟨v',l',e,k⟩:=k;cases e;exact k.elim (vH h1) (vH h2)
theorem pI{w w':World}{c:Nat}:∀{t:Ty} {vs x},(∀d,RB w t vs x d→w'.heap[d]? =w.heap[d]?)→RB w t vs x c→RB w' t vs x c
 | .int _,_,_,_,h=>by simp[RB]at h
 | .bool,_,_,_,h=>by simp[RB]at h
 | .str,_,_,_,h=>by simp[RB]at h
 | .unit,_,_,_,h=>by simp[RB]at h
 | .sl r,_,x,h,k=>by
  simp only[RB]at h k⊢;obtain⟨b,o,len,cap,e,hl,k⟩:=k;refine⟨b,o,len,cap,e,hl,?_⟩;rcases k with rfl|⟨i,y,cs,hy,aS,hca,k⟩
  ·omega
  ·have hb:=h b ⟨b,o,len,cap,e,hl,.inl rfl⟩
   exact .inr ⟨i,y,cs,hy,aS,hca.of_block hb,pI (fun d hd=>h d ⟨b,o,len,cap,e,hl,.inr ⟨i,y,cs,hy,aS,hca,hd⟩⟩) k⟩
 | .cons _ _,_,_,h,k=>by
  simp only[RB]at h k⊢;obtain⟨v,l,e,k⟩:=k;refine⟨v,l,e,k.elim (fun k=> .inl (pI (fun d hd=>h d ⟨v,l,e,.inl hd⟩) k)) (fun k=> .inr (pI (fun d hd=>h d ⟨v,l,e,.inr hd⟩) k))⟩
end Go.Fw
end
section
namespace Go.Fw
def CY{α β:Type}(R:α→β→Prop):List α→List β→Prop
 |[],[]=>True
 |a::l,b::m=>R a b∧CY R l m
 |_,_=>False
theorem CY.len{α β:Type}{R:α→β→Prop}:∀{l:List α} {m:List β},CY R l m→l.length=m.length
 |[],[],_=>rfl
 |_::_,_::_,h=>by simp[CY.len h.2]
theorem CY.get{α β:Type}{R:α→β→Prop}:∀{l:List α} {m:List β} {i:Nat} {a:α},CY R l m→l[i]? =some a→ ∃b,m[i]? =some b∧R a b
 |_::_,_::_,0,a,h,e=>by simp at e;subst e;exact⟨_,rfl,h.1⟩
 |_::_,_::_,i+1,a,h,e=>by
  obtain⟨b,hb,hr⟩:=CY.get (i:=i) h.2 (by simpa using e);simp_all
 |[],[],_,_,_,e=>by simp at e
theorem CY.imp{α β:Type}{R S:α→β→Prop}(h:∀a b,R a b→S a b):∀{l:List α} {m:List β},CY R l m→CY S l m
 |[],[],_=>trivial
 |_::_,_::_,k=>⟨h _ _ k.1,CY.imp h k.2⟩
structure Env where
 ID:Nat→Nat
 IE:Nat→Value
 T:Nat→Prop
 S:Nat→Prop
def JB(w:World):Value→List nS→Option Value
 |h,[]=>some h
 | .slice (some a) _ _,s::p=>
  match w.cell? ⟨a.block,a.off+s.i*s.sz+s.j,none⟩with
  |some h=>JB w h p
  |none=>none
 |_,_::_=>none
def DD:(r:Ty)→List r.D→List nS→Prop
 |_,_,[]=>True
 |r,rows,s::p=>s.i<rows.length∧s.sz=r.n∧
  match BQ r s.j (rowAt r rows s.i)with
  |some ⟨.sl q,x⟩=>DD q x p
  |_=>False
def WL(sz off n:Nat)(a:Option Addr)(cap:Nat):Value:=
 .slice (if cap=off then a else a.map (·.add (off*sz))) n (cap-off)
def isSlice:Value→Bool
 | .slice .. =>true
 |_=>false
def dP:Value→Bool
 | .pointer (some ⟨_,_,none⟩)=>true
 |_=>false
def RA(E:Env)(w:World)(q:(r:Ty)×r.D)(p:Value):Prop:= ∃bb o cs,p= .pointer (some ⟨bb,o,none⟩)∧E.T bb∧cs.length=q.1.n∧Bd w bb o cs∧Rd w E.T q.1 cs q.2
def VR(E:Env)(w:World)(vw:List Bx):AV→Value→Prop
 | .v t x,v=>t.scalar=true∧Rd w (fun _=>False) t [v] x
 | .sl s r x,v=>Rd w (if s then E.S else E.T) (.sl r) [v] x
 | .nil,v=>v= .slice none 0 0
 | .ref b p,v=>isSlice v=true∧match vw[b]? with
  |some (.sl _ r rows)=>DD r rows p∧(∃q,HF r rows p=some q)∧JB w (E.IE b) p=some v
  |some _=>True
  |none=>False
 | .win b p off n,v=>isSlice v=true∧match vw[b]? with
  |some (.sl _ r rows)=>DD r rows p∧ ∃q ys a len cap,HF r rows p=some ⟨q,ys⟩∧off+n≤List.length ys∧JB w (E.IE b) p=some (.slice a len cap)∧v=WL q.n off n a cap
  |some _=>True
  |none=>False
 | .Ip b j,v=>b<vw.length∧v= .pointer (some ⟨E.ID b,j,none⟩)
 | .Jk b p i sz j,v=>dP v=true∧match vw[b]? with
  |some (.sl _ r rows)=>DD r rows p∧ ∃q ys bb o len cap,HF r rows p=some ⟨q,ys⟩∧i<List.length ys∧JB w (E.IE b) p=some (.slice (some ⟨bb,o,none⟩) len cap)∧v= .pointer (some ⟨bb,o+i*sz+j,none⟩)
  |some _=>True
  |none=>False
 | .P8 s r x j,v=> ∃bb o cs,v= .pointer (some ⟨bb,o+j,none⟩)∧(if s then E.S else E.T) bb∧cs.length=r.n∧Bd w bb o cs∧Rd w (if s then E.S else E.T) r cs x
 | .fn f Ki,v=>(∀b∈Ki,b<vw.length)∧v= .func (.func f) #[] (Ki.map fun b=>Value.pointer (some ⟨E.ID b,0,none⟩)).toArray
 | .sB f rows,v=> ∃ps:List Value,v= .func (.func f) #[] ps.toArray∧CY (RA E w) rows ps
 | .zg,v=>v= .pointer none
 | .undef,_=>True
def jh(E:Env)(w:World)(vw:List Bx)(l:List AV)(vs:List Value):Prop:=CY (VR E w vw) l vs
def TR(E:Env)(w:World)(vw:List Bx):AV ⊕ List AV→Value→Prop
 | .inl x,v=>VR E w vw x v
 | .inr q,v=> ∃vs,v= .agg vs∧jh E w vw q vs.toList
def XR(E:Env)(w:World)(vw:List Bx):XV→Value→Prop
 | .c x,v=>VR E w vw x v
 | .agg l,v=> ∃vs,v= .agg vs∧jh E w vw l vs.toList
 | .Nb l,v=> ∃vs,v= .tuple vs∧CY (TR E w vw) l vs.toList
def qy(E:Env)(w:World)(vw:List Bx)(k:Nat):Bx→List Nat→Prop
 | .mem cs,F=>F=[E.ID k]∧ ∃arr ty fr,w.heap[E.ID k]? =some (.cells arr ty fr)∧w_ fr (arr.size+1)∧jh E w vw cs arr.toList
 | .sl d r rows,F=>1≤d∧Ow w E.S d (.sl r) [E.IE k] rows F
 | .dead,F=>F=[]
structure Sep (E:Env) (w:World) (F:ABa):Prop where
 nodup:F.Nodup
 free:∀c∈F,¬E.T c
 lt:∀c∈F,c<w.heap.size
 st:∀c,E.S c→E.T c
 dr:∀c,E.T c→c<w.heap.size
def N6(E:Env)(w:World)(vw bx:List Bx)(Fs:List ABa):Prop:=
 Fs.length=bx.length∧ ∀k B F,bx[k]? =some B→Fs[k]? =some F→qy E w vw k B F
def C7(E:Env)(w:World)(vw bx:List Bx)(G:ABa):Prop:=
 ∃Fs,N6 E w vw bx Fs∧Sep E w (Fs.flatten++G)
structure Le (E E':Env):Prop where
 ID:E'.ID=E.ID
 IE:E'.IE=E.IE
 T:∀c,E.T c→E'.T c
 S:∀c,E.S c→E'.S c
 Tof:∀c,E'.T c→E.T c∨E'.S c
 Sof:∀c,E'.S c→E.S c∨ ¬E.T c
theorem Le.refl(E:Env):Le E E:=⟨rfl,rfl,fun _ h=>h,fun _ h=>h,fun _ h=> .inl h,fun _ h=> .inl h⟩
theorem Le.trans{E E' E'':Env}(h:Le E E')(k:Le E' E''):Le E E'':=
 ⟨k.ID.trans h.ID,k.IE.trans h.IE,fun c hc=>k.T c (h.T c hc),fun c hc=>k.S c (h.S c hc),
  fun c hc=>(k.Tof c hc).elim (fun h' =>(h.Tof c h').imp id (k.S c)) .inr,
  fun c hc=>(k.Sof c hc).elim (h.Sof c) (fun h' => .inr fun ht=>h' (h.T c ht))⟩
theorem fq{w B}:∀{r:Ty} {cs x j t y},Rd w B r cs x→BQ r j x=some ⟨t,y⟩→ ∃v,cs[j]? =some v∧Rd w B t [v] y
 | .cons c r,cs,x,0,t,y,h,e=>by
  simp only[Rd]at h;obtain⟨v,l,rfl,h1,h2⟩:=h;simp only[BQ,AM7,AN9]at e;grind
 | .cons c r,cs,x,j+1,t,y,h,e=>by
  simp only[Rd]at h;obtain⟨v,l,rfl,h1,h2⟩:=h;simp only[BQ]at e;obtain⟨u,hu,hr⟩:=fq h2 e;simp_all
 | .int k,cs,x,0,t,y,h,e=>by
  simp only[BQ,AM7,AN9]at e;obtain⟨rfl,e⟩:=e;obtain rfl:=ASN e;simp only[Rd]at h;subst h;exact⟨_,rfl,by rfl⟩
 | .bool,cs,x,0,t,y,h,e=>by
  simp only[BQ,AM7,AN9]at e;obtain⟨rfl,e⟩:=e;obtain rfl:=ASN e;simp only[Rd]at h;subst h;exact⟨_,rfl,by rfl⟩
 | .str,cs,x,0,t,y,h,e=>by
  simp only[BQ,AM7,AN9]at e;obtain⟨rfl,e⟩:=e;obtain rfl:=ASN e;simp only[Rd]at h;subst h;exact⟨_,rfl,by rfl⟩
 | .sl r,cs,x,0,t,y,h,e=>by
  simp only[BQ,AM7,AN9]at e;obtain⟨rfl,e⟩:=e;obtain rfl:=ASN e;have h':=h;simp only[Rd]at h;grind
 | .unit,_,_,_,_,_,_,e=>by simp[BQ]at e
 | .int _,_,_,_+1,_,_,_,e=>by simp[BQ]at e
 | .bool,_,_,_+1,_,_,_,e=>by simp[BQ]at e
 | .str,_,_,_+1,_,_,_,e=>by simp[BQ]at e
 | .sl _,_,_,_+1,_,_,_,e=>by simp[BQ]at e
theorem R_{r:Ty}{rows:List r.D}{i:Nat}(h:i<rows.length):rows[i]? =some (rowAt r rows i):=by
 simp[rowAt,h]
theorem pJ{w:World}{B:Nat→Prop}:∀{p:List nS} {r:Ty} {h:Value} {rows:List r.D} {q:Ty} {ys:List q.D},
  Rd w B (.sl r) [h] rows→DD r rows p→HF r rows p=some ⟨q,ys⟩→
  ∃h',(∀w':World,(∀b,B b→w'.heap[b]? =w.heap[b]?)→JB w' h p=some h')∧Rd w B (.sl q) [h'] ys
 |[],r,h,rows,q,ys,hr,_,hg=>by
  simp only[HF,AM7,AN9]at hg;obtain⟨rfl,e⟩:=hg;obtain rfl:=ASN e;exact⟨h,fun w' _=>by rfl,hr⟩
 |s::p,r,h,rows,q,ys,hr,hp,hg=>by
  simp only[DD]at hp;obtain⟨hi,P9,hp⟩:=hp;simp only[HF]at hg;simp only[Rd]at hr;obtain⟨a,cap,hh,_,hr⟩:=hr;obtain rfl:=(List.cons.inj hh).1;rcases hr with hr|⟨b,o,rfl,hb,hr⟩
  ·omega
  obtain⟨cs,hl,hc,hrow⟩:=hr s.i _ (R_ hi);split at hg
  ·rename_i q' x' jE
   rw[jE]at hp;obtain⟨v,hv,hrv⟩:=fq hrow jE;obtain⟨h',hh',Xc⟩:=pJ hrv hp hg;refine⟨h',fun w' sZ=> ?_,Xc⟩;simp only[JB];have bM:w'.cell? ⟨b,o+s.i*s.sz+s.j,none⟩=some v:=by
    rw[P9];exact(World.cell?_of_block (a:=⟨b,_,none⟩) (sZ b hb)).trans (hc _ _ hv)
   simp_all
  simp_all
theorem C8{w:World}{h:Value}:JB w h []=some h:=by rfl
structure Tp (E:Env) (w:World) (vw:List Bx) (E':Env) (w':World) (vw':List Bx):Prop where
 len:vw.length≤vw'.length
 ID:∀b,b<vw.length→E'.ID b=E.ID b
 T:∀b,E.T b→E'.T b
 S:∀b,E.S b→E'.S b
 st:∀b,E.S b→E.T b
 heap:∀b,E.T b→w'.heap[b]? =w.heap[b]?
 box:∀b d r rows,b<vw.length→vw'[b]? =some (.sl d r rows)→ ∃d0 SG,vw[b]? =some (.sl d0 r SG)∧
  ∀p,DD r SG p→ ∀q ys,HF r SG p=some ⟨q,ys⟩→DD r rows p∧(∃wI,HF r rows p=some ⟨q,wI⟩∧List.length wI=List.length ys)∧
   ∀h,JB w (E.IE b) p=some h→JB w' (E'.IE b) p=some h
theorem QC{α:Type}{l l':List α}{b:Nat}{x:α}(h:l.length≤l'.length)(e:l[b]? =some x):∃y,l'[b]? =some y:=
 ⟨l'[b]'(AT9 (AM_.1 e).1 h),AMt _⟩
theorem Gd{E E':Env}{w w':World}{vw vw':List Bx}(k:Tp E w vw E' w' vw'):∀{x:AV} {v:Value},VR E w vw x v→VR E' w' vw' x v:=by
 intro x v h;cases x with
 |v t x=>exact⟨h.1,F9 (fun _ h=>h) (fun _ h=>h.elim) h.2⟩
 |sl s r x=>
  simp only[VR]at h⊢;cases s with
  |false=>exact F9 k.T k.heap (by simp_all)
  |true=>exact F9 k.S (fun b hb=>k.heap b (k.st b hb)) (by simp_all)
 |nil=>exact h
 |ref b p=>
  simp only[VR]at h⊢;obtain⟨h0,h⟩:=h;refine⟨h0,?_⟩;cases e:vw[b]? with
  |none=>simp_all
  |some B=>
   rw[e]at h;have Hh:=(AM_.1 e).1;obtain⟨B',e'⟩:=QC k.len e;rw[e'];cases B' with
   |mem cs=>trivial
   |dead=>trivial
   |sl d r rows=>
    obtain⟨d0,SG,e0,hk⟩:=k.box b d r rows Hh e';grind
 |win b p off n=>
  simp only[VR]at h⊢;obtain⟨h0,h⟩:=h;refine⟨h0,?_⟩;cases e:vw[b]? with
  |none=>simp_all
  |some B=>
   rw[e]at h;have Hh:=(AM_.1 e).1;obtain⟨B',e'⟩:=QC k.len e;rw[e'];cases B' with
   |mem cs=>trivial
   |dead=>trivial
   |sl d r rows=>
    obtain⟨d0,SG,e0,hk⟩:=k.box b d r rows Hh e';grind
 |Ip b j=>exact⟨AT9 h.1 k.len,by rw[h.2,k.ID b h.1]⟩
 |Jk b p i sz j=>
  simp only[VR]at h⊢;obtain⟨h0,h⟩:=h;refine⟨h0,?_⟩;cases e:vw[b]? with
  |none=>simp_all
  |some B=>
   rw[e]at h;have Hh:=(AM_.1 e).1;obtain⟨B',e'⟩:=QC k.len e;rw[e'];cases B' with
   |mem cs=>trivial
   |dead=>trivial
   |sl d r rows=>
    obtain⟨d0,SG,e0,hk⟩:=k.box b d r rows Hh e';grind
 |P8 s r x j=>
  simp only[VR]at h⊢;obtain⟨bb,o,cs,hv,hb,hl,hc,hr⟩:=h;cases s with
  |false=>exact⟨bb,o,cs,hv,k.T bb (by simp_all),hl,hc.of_block (k.heap bb (by simp_all)),F9 k.T k.heap (by simp_all)⟩
  |true=>exact⟨bb,o,cs,hv,k.S bb (by simp_all),hl,hc.of_block (k.heap bb (k.st bb (by simp_all))),F9 k.S (fun b hb=>k.heap b (k.st b hb)) (by simp_all)⟩
 |fn f Ki=>
  refine⟨fun b hb=>AT9 (h.1 b hb) k.len,?_⟩;rw[h.2];congr 2;exact AUL fun b hb=>by rw[k.ID b (h.1 b hb)]
 |sB f rows=>
  obtain⟨ps,hv,h⟩:=h;exact⟨ps,hv,h.imp fun q p ⟨bb,o,cs,h1,h2,h3,h4,h5⟩=>⟨bb,o,cs,h1,k.T bb h2,h3,h4.of_block (k.heap bb h2),F9 k.T k.heap h5⟩⟩
 |zg=>exact h
 |undef=>trivial
theorem PW{E E':Env}{w w':World}{vw vw':List Bx}(k:Tp E w vw E' w' vw'):∀{x:XV} {v:Value},XR E w vw x v→XR E' w' vw' x v
 | .c _,_,h=>Gd k h
 | .agg _,_,⟨vs,hv,h⟩=>⟨vs,hv,h.imp fun _ _ h=>Gd k h⟩
 | .Nb l,_,⟨vs,hv,h⟩=>⟨vs,hv,h.imp fun
  | .inl _,_,h=>Gd k h
  | .inr _,_,⟨ws,hw,h⟩=>⟨ws,hw,h.imp fun _ _ h=>Gd k h⟩⟩
theorem Tp.refl{E:Env}{w:World}{vw:List Bx}(st:∀b,E.S b→E.T b):Tp E w vw E w vw:=
 ⟨AQm _,fun _ _=>rfl,fun _ h=>h,fun _ h=>h,st,fun _ _=>rfl,fun b d r rows _ h=>⟨d,rows,h,fun p hp q ys hg=>⟨hp,⟨ys,hg,rfl⟩,fun _ h=>h⟩⟩⟩
theorem Tp.trans{E E' E'':Env}{w w' w'':World}{vw vw' AVS:List Bx}(k:Tp E w vw E' w' vw')(k':Tp E' w' vw' E'' w'' AVS):Tp E w vw E'' w'' AVS where
 len:=ASX k.len k'.len
 ID:=fun b hb=>(k'.ID b (AT9 hb k.len)).trans (k.ID b hb)
 T:=fun b h=>k'.T b (k.T b h)
 S:=fun b h=>k'.S b (k.S b h)
 st:=k.st
 heap:=fun b h=>(k'.heap b (k.T b h)).trans (k.heap b h)
 box:=fun b d r rows hb h=>by
  obtain⟨d1,ANS,h1,k1⟩:=k'.box b d r rows (AT9 hb k.len) h;obtain⟨d0,SG,h0,k0⟩:=k.box b d1 r ANS hb h1;grind
theorem vP{w w':World}{S:Nat→Prop}{d:Nat}{r:Ty}{h:Value}{rows:List r.D}{F:ABa}(ho:Ow w S d (.sl r) [h] rows F)
  (hS:∀b,S b→w'.heap[b]? =w.heap[b]?) (hF:∀b∈F,w'.heap[b]? =w.heap[b]?) {p:List nS} (hp:DD r rows p) {q:Ty} {ys:List q.D} (hg:HF r rows p=some ⟨q,ys⟩)
  {h':Value} (hh:JB w h p=some h'):JB w' h p=some h':=by
 obtain⟨h1,k,_⟩:=pJ (YF ho) hp hg;grind
end Go.Fw
end
section
namespace Go.Fw
theorem CY.set{α β:Type}{R:α→β→Prop}:∀{l:List α} {m:List β} {i:Nat} {a:α} {b:β},CY R l m→R a b→CY R (l.set i a) (m.set i b)
 |[],[],_,_,_,_,_=>trivial
 |_::_,_::_,0,_,_,h,r=>⟨r,h.2⟩
 |_::_,_::_,i+1,_,_,h,r=>⟨h.1,CY.set h.2 r⟩
theorem CY.append{α β:Type}{R:α→β→Prop}:∀{l:List α} {m:List β} {l':List α} {m':List β},CY R l m→CY R l' m'→CY R (l++l') (m++m')
 |[],[],_,_,_,h=>h
 |_::_,_::_,_,_,h,k=>⟨h.1,CY.append h.2 k⟩
theorem CY.MG{α β γ:Type}{R:α→β→Prop}{S:γ→β→Prop}(f:α→γ)(h:∀a b,R a b→S (f a) b):∀{l:List α} {m:List β},CY R l m→CY S (l.map f) m
 |[],[],_=>trivial
 |_::_,_::_,k=>⟨h _ _ k.1,CY.MG f h k.2⟩
theorem CY.drop{α β:Type}{R:α→β→Prop}:∀{l:List α} {m:List β} (n:Nat),CY R l m→CY R (l.drop n) (m.drop n)
 |_,_,0,h=>h
 |[],[],_+1,_=>trivial
 |_::_,_::_,n+1,h=>CY.drop n h.2
theorem CY.take{α β:Type}{R:α→β→Prop}:∀{l:List α} {m:List β} (n:Nat),CY R l m→CY R (l.take n) (m.take n)
 |[],[],0,_=>trivial
 |_::_,_::_,0,_=>trivial
 |[],[],_+1,_=>trivial
 |_::_,_::_,n+1,h=>⟨h.1,CY.take n h.2⟩
structure eQ (E0:Env) (w0:World) (E:Env) (w:World):Prop where
 T:∀c,E0.T c→E.T c
 S:∀c,E0.S c→E.S c
 Tof:∀c,E.T c→E0.T c∨E.S c
 Sof:∀c,E.S c→E0.S c∨ ¬E0.T c
 heap:∀c,E0.T c→w.heap[c]? =w0.heap[c]?
 os:w.os=w0.os
 tape:w.tape=w0.tape
 output:w.output=w0.output
 size:w0.heap.size≤w.heap.size
theorem eQ.refl(E:Env)(w:World):eQ E w E w:=⟨fun _ h=>h,fun _ h=>h,fun _ h=> .inl h,fun _ h=> .inl h,fun _ _=>rfl,rfl,rfl,rfl,AQm _⟩
theorem eQ.trans{E E' E'':Env}{w w' w'':World}(h:eQ E w E' w')(k:eQ E' w' E'' w''):eQ E w E'' w'':=
 ⟨fun c hc=>k.T c (h.T c hc),fun c hc=>k.S c (h.S c hc),fun c hc=>(k.Tof c hc).elim (fun h' =>(h.Tof c h').imp id (k.S c)) .inr,
  fun c hc=>(k.Sof c hc).elim (h.Sof c) (fun h' => .inr fun ht=>h' (h.T c ht)),fun c hc=>(k.heap c (h.T c hc)).trans (h.heap c hc),
  k.os.trans h.os,k.tape.trans h.tape,k.output.trans h.output,ASX h.size k.size⟩
theorem Le.base{E E':Env}(h:Le E E')(w:World):eQ E w E' w:=⟨h.T,h.S,h.Tof,h.Sof,fun _ _=>rfl,rfl,rfl,rfl,AQm _⟩
def yR(E:Env)(w:World)(k:Nat):Bx→Nat→Prop
 | .mem _,c=>c=E.ID k
 | .sl _ r rows,c=>RB w (.sl r) [E.IE k] rows c
 | .dead,_=>False
def WM:Bx→Bx→Prop
 | .mem _,.mem _=>True
 | .sl _ r x,.sl _ q y=>(⟨r,x⟩:(r:Ty)×List r.D)=⟨q,y⟩
 |_,_=>False
structure SC (t:ABa) (E0:Env) (bx0:List Bx) (w0:World) (E:Env) (bx:List Bx) (w:World):Prop where
 base:eQ E0 w0 E w
 len:bx0.length≤bx.length
 ids:∀b,b<bx0.length→E.ID b=E0.ID b∧E.IE b=E0.IE b
 dead:∀b:Nat,bx0[b]? =some Bx.dead→bx[b]? =some Bx.dead
 frame:∀(n:Nat) B B',n∉t→bx0[n]? =some B→bx[n]? =some B'→B'≠ .dead→WM B B'∧ ∀c,yR E0 w0 n B c→w.heap[c]? =w0.heap[c]?
theorem SC.any{E E':Env}{bx Q7:List Bx}{w w':World}(h:SC [] E bx w E' Q7 w'){t:ABa}:SC t E bx w E' Q7 w':=
 ⟨h.base,h.len,h.ids,h.dead,fun n B B' _=>h.frame n B B' (by simp)⟩
theorem WM.refl{B:Bx}(h:B≠ .dead):WM B B:=by cases B<;>simp_all[WM]
theorem SC.refl(t:ABa)(E:Env)(bx:List Bx)(w:World):SC t E bx w E bx w:=⟨eQ.refl E w,AQm _,fun _ _=>⟨rfl,rfl⟩,fun _ h=>h,fun n B B' _ h h' hd=>by
 rw[h]at h';cases h';exact⟨WM.refl hd,fun _ _=>rfl⟩⟩
theorem fP{E:Env}{w:World}{vw:List Bx}{k:Nat}{B:Bx}{F:ABa}{c:Nat}(h:qy E w vw k B F)(hc:yR E w k B c):E.S c∨c∈F:=by
 cases B with
 |mem cs=>obtain⟨rfl,_⟩:=h;grind[yR]
 |sl d r rows=>exact vH (YF h.2) hc
 |dead=>exact hc.elim
structure Rel (E:Env) (σ:St) (a:Act) (w:World):Prop where
 ON:a.defers=[]
 tm:CY (XR E w σ.bx) σ.tm a.tmps.toList
 bx:C7 E w σ.bx σ.bx []
theorem Rel.put{E:Env}{σ:St}{a:Act}{w:World}(h:Rel E σ a w)(dst:Option Tmp){x:XV}{v:Value}(hx:XR E w σ.bx x v):Rel E (σ.put dst x) (a.put dst v) w:=by
 cases dst with
 |none=>exact h
 |some d=>exact⟨h.ON,by simpa[St.put,Act.put]using CY.set h.tm hx,h.bx⟩
theorem CY.ASG{E:Env}{w:World}{vw:List Bx}{l:List XV}{m:Array Value}(h:CY (XR E w vw) l m.toList)(t:Nat):XR E w vw (l.getD t (.c .undef)) (m.getD t undef):=by
 by_cases ht:t<l.length
 ·have e:l[t]? =some l[t]:=AMt ht
  obtain⟨b,hb,hr⟩:=h.get e;simp_all
 ·have e:l[t]? =none:=by simp_all
  simp only[List.getD_eq_getElem?_getD,e,Option.getD_none]
  trivial
theorem tL{E:Env}{w:World}{vw:List Bx}(v:Value):VR E w vw (qF v) v:=by
 unfold qF;split<;>first
  |trivial
  |exact⟨rfl,by simp[Rd]⟩
  |rfl
theorem ng{E:Env}{w:World}{vw:List Bx}:∀(l:List Value),jh E w vw (l.map qF) l
 |[]=>trivial
 |a::l=>⟨tL a,ng l⟩
theorem AAZ{E:Env}{w:World}{vw:List Bx}(v:Value):XR E w vw (ofValue v) v:=by
 unfold ofValue;split
 ·rename_i cs
  exact⟨cs,rfl,ng cs.toList⟩
 ·exact tL v
theorem Rel.ev{E:Env}{σ:St}{a:Act}{w:World}(h:Rel E σ a w)(x:Operand):XR E w σ.bx (σ.ev x) (a.eval x):=by
 cases x with
 |tmp t=>exact CY.ASG h.tm t
 |const v=>exact AAZ v
 |global g=>trivial
 |func f=>exact⟨by simp,rfl⟩
theorem Ve{b:Nat}:∀{Fs:List ABa} {F:ABa},Fs[b]? =some F→Fs.flatten.Perm (F++(Fs.set b []).flatten):=by
 induction b with
 |zero=>
  intro Fs F h;cases Fs with
  |nil=>simp at h
  |cons A l=>simp_all
 |succ b ih=>
  intro Fs F h;cases Fs with
  |nil=>simp at h
  |cons A l=>
   grind
theorem Sep.perm{E:Env}{w:World}{F F':ABa}(h:Sep E w F)(p:F.Perm F'):Sep E w F':=
 ⟨p.nodup_iff.1 h.nodup,fun c hc=>h.free c (p.mem_iff.2 hc),fun c hc=>h.lt c (p.mem_iff.2 hc),h.st,h.dr⟩
theorem Sep.sub{E:Env}{w:World}{F F':ABa}(h:Sep E w (F++F')):Sep E w F:=
 ⟨(AOY.1 h.nodup).1,fun c hc=>h.free c (by simp[hc]),fun c hc=>h.lt c (by simp[hc]),h.st,h.dr⟩
theorem C7.perm{E:Env}{w:World}{vw bx:List Bx}{G G':ABa}(h:C7 E w vw bx G)(p:G.Perm G'):C7 E w vw bx G':=
 let⟨Fs,h1,h2⟩:=h
 ⟨Fs,h1,h2.perm (AYE _ p)⟩
theorem C7.drop{E:Env}{w:World}{vw bx:List Bx}{G G':ABa}(h:C7 E w vw bx (G++G')):C7 E w vw bx G:=
 let⟨Fs,h1,h2⟩:=h
 ⟨Fs,h1,by rw[←AOj]at h2;exact h2.sub⟩
theorem C7.st{E:Env}{w:World}{vw bx:List Bx}{G:ABa}(h:C7 E w vw bx G):∀c,E.S c→E.T c:=let⟨_,_,h⟩:=h;h.st
theorem C7.dr{E:Env}{w:World}{vw bx:List Bx}{G:ABa}(h:C7 E w vw bx G):∀c,E.T c→c<w.heap.size:=let⟨_,_,h⟩:=h;h.dr
theorem C7.AEV{E:Env}{w:World}{vw bx:List Bx}{G:ABa}(h:C7 E w vw bx G):∀c∈G,¬E.T c:=let⟨_,_,h⟩:=h;fun c hc=>h.free c (by simp[hc])
theorem C7.take{E:Env}{w:World}{vw bx:List Bx}{G:ABa}(h:C7 E w vw bx G){b:Nat}{B:Bx}(hb:bx[b]? =some B):
  ∃F,qy E w vw b B F∧C7 E w vw (bx.set b .dead) (F++G):=by
 obtain⟨Fs,⟨hl,h1⟩,h2⟩:=h;have Hh:=(AM_.1 hb).1;have hF:Fs[b]? =some (Fs[b]'(by omega)):=AMt _;refine⟨_,h1 b B _ hb hF,Fs.set b [],⟨by simp_all,fun k C F hk hkF=> ?_⟩,h2.perm ?_⟩
 ·by_cases e:k=b
  ·subst e
   rw[AUK (by omega)]at hk hkF;cases hk;cases hkF;rfl
  grind
 grind[List.Perm.append_right,Ve,List.append_assoc,List.perm_append_comm,trans,List.Perm.append_left]
theorem C7.put{E:Env}{w:World}{vw bx:List Bx}{F G:ABa}(h:C7 E w vw bx (F++G)){b:Nat}{B:Bx}(hb:bx[b]? =some .dead)(hB:qy E w vw b B F):
  C7 E w vw (bx.set b B) G:=by
 obtain⟨Fs,⟨hl,h1⟩,h2⟩:=h;have Hh:=(AM_.1 hb).1;have hF:Fs[b]? =some (Fs[b]'(by omega)):=AMt _;have e0:Fs[b]'(by omega)=[]:=h1 b _ _ hb hF;refine⟨Fs.set b F,⟨by simp_all,fun k C F' hk hkF=> ?_⟩,h2.perm ?_⟩
 ·grind
 ·have p:(Fs.set b F).flatten.Perm (F++Fs.flatten):=by
   have p1:=Ve (Fs:=Fs.set b F) (b:=b) (F:=F) (AUK (by omega));rw[AYW]at p1;have p2:=Ve hF;grind
  grind
theorem C7.push{E:Env}{w:World}{vw bx:List Bx}{F G:ABa}(h:C7 E w vw bx (F++G)){B:Bx}(hB:qy E w vw bx.length B F):
  C7 E w vw (bx++[B]) G:=by
 obtain⟨Fs,⟨hl,h1⟩,h2⟩:=h;refine⟨Fs++[F],⟨by simp[hl],fun k C F' hk hkF=> ?_⟩,h2.perm (by simp)⟩;grind
theorem C7.turn{E E':Env}{w w':World}{vw vw' bx:List Bx}{G:ABa}(h:C7 E w vw bx G)(k:∀x v,VR E w vw x v→VR E' w' vw' x v)
  (hS:∀c,E.S c→E'.S c) (AGL:∀b,b<bx.length→E'.ID b=E.ID b) (oB:∀b,b<bx.length→E'.IE b=E.IE b)
  (hw:∀c,(E.S c∨(¬E.T c∧c∉G))→c<w.heap.size→w'.heap[c]? =w.heap[c]?)
  (AEb:∀F,Sep E w (F++G)→Sep E' w' (F++G)):C7 E' w' vw' bx G:=by
 obtain⟨Fs,⟨hl,h1⟩,h2⟩:=h;refine⟨Fs,⟨hl,fun n B F hn hF=> ?_⟩,AEb _ h2⟩;have Hh:=(AM_.1 hn).1;have h3:=h1 n B F hn hF;have APA:∀c∈F,c∈Fs.flatten:=fun c hc=>AT1.2 ⟨F,APy hF,hc⟩
 have hFw:∀c∈F,w'.heap[c]? =w.heap[c]?:=fun c hc=>hw c (.inr ⟨h2.free c (by simp_all),fun hg=>by
  have:=(AOY.1 h2.nodup).2.2 c (APA c hc) c hg;omega⟩) (h2.lt c (by simp_all))
 have uP:∀c,E.S c→w'.heap[c]? =w.heap[c]?:=fun c hc=>hw c (.inl hc) (h2.dr c (h2.st c hc))
 cases B with
 |mem cs=>
  obtain⟨rfl,arr,ty,fr,ha,hu,hv⟩:=h3;refine⟨by simp_all,arr,ty,fr,?_,hu,hv.imp k⟩;simp_all
 |sl d r rows=>
  obtain⟨hd,ho⟩:=h3;refine⟨hd,?_⟩;grind[Eh]
 |dead=>exact h3
end Go.Fw
end
section
namespace Go.Fw
theorem IK{β:Ty→Type}{a b:Ty}{x:β a}{y:β b}(h:Q9 a b x=some y):∃e:a=b,e▸x=y:=by
 grind[Q9]
def Fa(bk vw:List Bx):Prop:= ∀(b:Nat) (B:Bx),bk[b]? =some B→B= .dead∨vw[b]? =some B
theorem Fa.refl(bx:List Bx):Fa bx bx:=fun _ _ h=> .inr h
theorem Addr.add_eq(b o n:Nat):(⟨b,o,none⟩:Addr).add n=⟨b,o+n,none⟩:=by grind[Addr.add]
theorem zK{w:World}{B:Nat→Prop}{r:Ty}{a:Option Addr}{len cap:Nat}{ys:List r.D}(h:Rd w B (.sl r) [.slice a len cap] ys){off n:Nat}(hn:off+n≤ys.length):
  Rd w B (.sl r) [WL r.n off n a cap] ((ys.drop off).take n):=by
 simp only[Rd]at h⊢;obtain⟨a',cap',e,hc,h⟩:=h;simp only[AQ_,Value.slice.injEq,AUD]at e;obtain⟨rfl,rfl,rfl⟩:=e;have hl:((ys.drop off).take n).length=n:=by grind
 refine⟨_,_,by unfold WL;rw[hl],by omega,?_⟩;rw[hl];by_cases h0:n=0
 ·omega
 ·rcases h with h|⟨b,o,rfl,hb,h⟩
  ·omega
  ·refine .inr ⟨b,o+off*r.n,?_,hb,fun i y hy=> ?_⟩
   ·rw[AM5 (by omega)]
    simp[Addr.add_eq]
   grind
def qL(E:Env)(Fs:List ABa)(c:Nat):Prop:=E.T c∨c∈Fs.flatten
section
variable{E:Env} {w:World} {vw bk:List Bx} {Fs:List ABa}
theorem N6.get(h:N6 E w vw bk Fs){b:Nat}{B:Bx}(e:bk[b]? =some B):∃F,qy E w vw b B F∧ ∀c∈F,c∈Fs.flatten:=by
 have Hh:=(AM_.1 e).1;have hF:Fs[b]? =some (Fs[b]'(by rw[h.1];omega)):=AMt _;exact⟨_,h.2 b B _ e hF,fun c hc=>AT1.2 ⟨_,APy hF,hc⟩⟩
theorem eO(hs:Fa bk vw)(h:N6 E w vw bk Fs)(st:∀c,E.S c→E.T c){b d:Nat}{r:Ty}{rows:List r.D}(e:bk[b]? =some (.sl d r rows))
  {p:List nS} (hp:DD r rows p) {q:Ty} {ys:List q.D} (hg:HF r rows p=some ⟨q,ys⟩) {v:Value} (hh:JB w (E.IE b) p=some v):
  Rd w (qL E Fs) (.sl q) [v] ys:=by
 obtain⟨F,⟨_,ho⟩,hF⟩:=h.get e;obtain⟨h',k,hr⟩:=pJ (YF ho) hp hg;have:=k w (fun _ _=>rfl);rw[hh]at this;cases this;exact F9 (fun c hc=>hc.elim (fun hc=> .inl (st c hc)) (fun hc=> .inr (hF c hc))) (fun _ _=>rfl) hr
theorem ZY(hs:Fa bk vw){b d:Nat}{r:Ty}{rows:List r.D}(e:bk[b]? =some (.sl d r rows)):vw[b]? =some (.sl d r rows):=by
 rcases hs b _ e with h|h
 all_goals simp_all
theorem bH(hs:Fa bk vw)(h:N6 E w vw bk Fs)(st:∀c,E.S c→E.T c){x:AV}{v:Value}(hv:VR E w vw x v){q:Ty}{ys:List q.D}(e:N8 bk x=some ⟨q,ys⟩):
  Rd w (qL E Fs) (.sl q) [v] ys:=by
 cases x with
 |sl s r x=>
  simp only[N8,AM7,AN9]at e;obtain⟨rfl,e⟩:=e;obtain rfl:=ASN e;simp only[VR]at hv;refine F9 (fun c hc=> ?_) (fun _ _=>rfl) hv;cases s
  ·exact .inl (by simp_all)
  ·exact .inl (st c (by simp_all))
 |ref b p=>
  grind[N8,VR,ZY,eO]
 |win b p off n=>
  simp only[N8]at e;split at e
  ·rename_i d r rows hb
   simp only[VR,ZY hs hb]at hv;obtain⟨_,hp,q',wI,a,len,cap,hg,hl,hh,rfl⟩:=hv;rw[hg]at e;simp only[AYe,AM7,AN9]at e;obtain⟨rfl,e⟩:=e;obtain rfl:=ASN e;grind[zK,eO]
  simp_all
 |_=>simp[N8]at e
theorem VE(hs:Fa bk vw)(h:N6 E w vw bk Fs)(st:∀c,E.S c→E.T c){t:Ty}{x:AV}{v:Value}(hv:VR E w vw x v){y:t.D}(e:NZ bk t x=some y):
  Rd w (qL E Fs) t [v] y:=by
 have sl:∀(r:Ty) (x:AV) (v:Value) (y:List r.D),VR E w vw x v→((N8 bk x).bind fun q=>Q9 (β:=fun r=>List r.D) q.1 r q.2)=some y→Rd w (qL E Fs) (.sl r) [v] y:=by
  grind[Option.bind_eq_some_iff,IK,bH]
 cases x with
 |v u z=>
  simp only[NZ]at e;obtain⟨e1,e2⟩:=IK e;subst e1;subst e2;exact F9 (fun _ hc=>hc.elim) (fun _ hc=>hc.elim) hv.2
 |nil=>
  cases t with
  |sl r=>
   simp only[NZ,AM7]at e;subst e;simp only[VR]at hv;subst hv;simp only[Rd];simp_all
  |_=>simp[NZ]at e
 |_=>
  cases t with
  |sl r=>exact sl r _ _ y hv (by simpa only[NZ]using e)
  |_=>simp[NZ]at e
theorem hU(hs:Fa bk vw)(h:N6 E w vw bk Fs)(st:∀c,E.S c→E.T c):∀{r:Ty} {l:List AV} {vs:List Value} {x:r.D},jh E w vw l vs→IH bk r l=some x→
  Rd w (qL E Fs) r vs x
 | .unit,[],[],x,_,_=>by rfl
 | .cons c r,a::l,v::vs,x,hv,e=>by
  simp only[IH,ANL,AM9]at e;obtain⟨y,e1,z,e2,rfl⟩:=e;simp only[Rd];exact⟨v,vs,rfl,VE hs h st hv.1 e1,hU hs h st hv.2 e2⟩
 | .unit,_::_,_,_,_,e=>by simp[IH]at e
 | .unit,[],_::_,_,hv,_=>hv.elim
 | .cons _ _,[],_,_,_,e=>by simp[IH]at e
 | .cons _ _,_::_,[],_,hv,_=>hv.elim
 | .int _,_,_,_,_,e=>by simp[IH]at e
 | .bool,_,_,_,_,e=>by simp[IH]at e
 | .str,_,_,_,_,e=>by simp[IH]at e
 | .sl _,_,_,_,_,e=>by simp[IH]at e
theorem kX{E1:Env}{yO:List Bx}(hs:Fa bk vw)(h:N6 E w vw bk Fs)(st:∀c,E.S c→E.T c)(hT:∀c,qL E Fs c→E1.T c):
  ∀{r:Ty} {l:List AV} {vs:List Value} {x:r.D},jh E w vw l vs→IH bk r l=some x→jh E1 w yO (rz r x) vs
 | .unit,[],[],x,_,_=>trivial
 | .cons c r,a::l,v::vs,x,hv,e=>by
  simp only[IH,ANL,AM9]at e;obtain⟨y,e1,z,e2,rfl⟩:=e;have Xc:=VE hs h st hv.1 e1;have tl:jh E1 w yO _ _:=kX hs h st hT hv.2 e2;cases c with
  |sl q=>
   refine⟨?_,tl⟩;simp only[VR];exact F9 hT (fun _ _=>rfl) (by omega)
  |int k=>exact⟨⟨rfl,by grind[Rd]⟩,tl⟩
  |bool=>exact⟨⟨rfl,by grind[Rd]⟩,tl⟩
  |str=>exact⟨⟨rfl,by grind[Rd]⟩,tl⟩
  |unit=>
   grind[Rd]
  |cons c' r' =>
   exfalso
   cases a with
   |v u z=>
    simp only[NZ]at e1;obtain⟨e3,_⟩:=IK e1;subst e3;exact absurd hv.1.1 (by simp[Ty.scalar])
   |_=>simp[NZ]at e1
 | .unit,_::_,_,_,_,e=>by simp[IH]at e
 | .unit,[],_::_,_,hv,_=>hv.elim
 | .cons _ _,[],_,_,_,e=>by simp[IH]at e
 | .cons _ _,_::_,[],_,hv,_=>hv.elim
 | .int _,_,_,_,_,e=>by simp[IH]at e
 | .bool,_,_,_,_,e=>by simp[IH]at e
 | .str,_,_,_,_,e=>by simp[IH]at e
 | .sl _,_,_,_,_,e=>by simp[IH]at e
end
end Go.Fw
end
section
namespace Go.Fw
def Ext(m m':QI):Prop:=m'.length=m.length∧ ∀(i b:Nat),m[i]? =some (some b)→m'[i]? =some (some b)
theorem Ext.refl(m:QI):Ext m m:=⟨rfl,fun _ _ h=>h⟩
theorem Ext.trans{m m' m'':QI}(h:Ext m m')(k:Ext m' m''):Ext m m'':=⟨k.1.trans h.1,fun i b e=>k.2 i b (h.2 i b e)⟩
def qG(m:QI):Prop:= ∀(i j b:Nat),m[i]? =some (some b)→m[j]? =some (some b)→i=j
theorem eP{m m':QI}{i b:Nat}(e:m.put i b=some m'):Ext m m'∧m'[i]? =some (some b)∧(qG m→qG m'):=by
 unfold QI.put at e;split at e
 ·rename_i h
  split at e
  ·cases e
  ·rename_i hc
   cases e;have Hh:=(AM_.1 h).1;have AXx:∀(k:Nat),m[k]?≠some (some b):=fun k hk=>hc (by
    grind)
   refine⟨⟨by simp,fun k c hk=> ?_⟩,by simp[Hh],fun hi j k c hj hk=> ?_⟩
   ·grind
   ·by_cases e1:j=i<;>by_cases e2:k=i
    ·omega
    ·grind
    ·grind
    ·rw[AT4 (by omega)]at hj hk
     exact hi j k c hj hk
 all_goals grind[Ext.refl]
def S1(m:QI):List Nat→List Nat→Prop
 |[],[]=>True
 |i::is,b::bs=>m[i]? =some (some b)∧S1 m is bs
 |_,_=>False
theorem S1.ext{m m':QI}(h:Ext m m'):∀{is bs},S1 m is bs→S1 m' is bs
 |[],[],_=>trivial
 |_::_,_::_,k=>⟨h.2 _ _ k.1,S1.ext h k.2⟩
theorem kF:∀{is bs:ABa} {m m':QI},bw m is bs=some m'→Ext m m'∧S1 m' is bs∧(qG m→qG m')
 |[],[],m,m',e=>by simp only[bw,AM7]at e;subst e;exact⟨Ext.refl _,trivial,fun h=>h⟩
 |i::is,b::bs,m,m',e=>by
  simp only[bw,ANL]at e;obtain⟨m1,e1,e2⟩:=e;obtain⟨a1,a2,a3⟩:=eP e1;obtain⟨b1,b2,b3⟩:=kF e2;exact⟨a1.trans b1,⟨b1.2 _ _ a2,b2⟩,fun h=>b3 (a3 h)⟩
 |[],_::_,_,_,e=>by simp[bw]at e
 |_::_,[],_,_,e=>by simp[bw]at e
def Sd(N:Nat)(m:QI):AP→AV→Prop
 | .ref i,x=> ∃b,(x= .ref b []∨(x= .nil∧b=N+i))∧m[i]? =some (some b)
 | .ptr i j,x=> ∃b,x= .Ip b j∧m[i]? =some (some b)
 | .fn f Ki,x=> ∃bs,x= .fn f bs∧S1 m Ki bs
 | .nil,x=>x= .nil
 | .mb i sz,x=> ∃b k j,x= .ref b [⟨k,sz,j⟩]∧m[i]? =some (some b)
 |_,_=>True
theorem Sd.ext{N:Nat}{m m':QI}(h:Ext m m'){p:AP}{x:AV}(k:Sd N m p x):Sd N m' p x:=by
 cases p with
 |ref i=>obtain⟨b,hx,k⟩:=k;exact⟨b,hx,h.2 _ _ k⟩
 |ptr i j=>obtain⟨b,rfl,k⟩:=k;exact⟨b,rfl,h.2 _ _ k⟩
 |fn f Ki=>obtain⟨bs,rfl,k⟩:=k;exact⟨bs,rfl,k.ext h⟩
 |nil=>exact k
 |mb i sz=>obtain⟨b,q,j,rfl,k⟩:=k;exact⟨b,q,j,rfl,h.2 _ _ k⟩
 |_=>trivial
theorem dv{N:Nat}{m m':QI}{p:AP}{x:AV}(e:p.OY N m x=some m'):Ext m m'∧Sd N m' p x∧(qG m→qG m'):=by
 cases p with
 |ref i=>
  cases x with
  |ref b q=>
   cases q with
   |nil=>
    obtain⟨a,b,c⟩:=eP (by simpa only[AP.OY]using e);exact⟨a,⟨_,.inl rfl,b⟩,c⟩
   |cons _ _=>simp[AP.OY]at e
  |nil=>
   obtain⟨a,b,c⟩:=eP (by simpa only[AP.OY]using e);exact⟨a,⟨_,.inr ⟨rfl,rfl⟩,b⟩,c⟩
  |_=>simp[AP.OY]at e
 |ptr i j=>
  cases x with
  |Ip b j' =>
   simp only[AP.OY]at e;split at e
   ·rename_i hj
    subst hj;obtain⟨a,b,c⟩:=eP e;exact⟨a,⟨_,rfl,b⟩,c⟩
   simp_all
  |_=>simp[AP.OY]at e
 |fn f Ki=>
  cases x with
  |fn g bs=>
   simp only[AP.OY]at e;split at e
   ·rename_i hf
    subst hf;obtain⟨a,b,c⟩:=kF e;exact⟨a,⟨_,rfl,b⟩,c⟩
   simp_all
  |_=>simp[AP.OY]at e
 |nil=>
  cases x with
  |nil=>simp only[AP.OY,AM7]at e;subst e;exact⟨Ext.refl _,rfl,fun h=>h⟩
  |_=>simp[AP.OY]at e
 |mb i sz=>
  cases x with
  |ref b q=>
   cases q with
   |nil=>simp[AP.OY]at e
   |cons s q=>
    cases q with
    |nil=>
     simp only[AP.OY]at e;split at e
     ·rename_i hs
      obtain⟨a,b,c⟩:=eP e;obtain⟨k,z,y⟩:=s;dsimp only at hs;subst hs;exact⟨a,⟨_,k,y,rfl,b⟩,c⟩
     simp_all
    |cons _ _=>simp[AP.OY]at e
  |_=>simp[AP.OY]at e
 |_=>
  have:m=m':=by grind[AP.OY]
  subst this;exact⟨Ext.refl _,trivial,fun h=>h⟩
theorem XG{N:Nat}:∀{l:List AP} {xs:List AV} {m m':QI},Yj.OY N m l xs=some m'→Ext m m'∧CY (Sd N m') l xs∧(qG m→qG m')
 |[],[],m,m',e=>by simp only[Yj.OY,AM7]at e;subst e;exact⟨Ext.refl _,trivial,fun h=>h⟩
 |p::l,x::xs,m,m',e=>by
  simp only[Yj.OY,ANL]at e;obtain⟨m1,e1,e2⟩:=e;obtain⟨a1,a2,a3⟩:=dv e1;obtain⟨b1,b2,b3⟩:=XG e2;exact⟨a1.trans b1,⟨a2.ext b1,b2⟩,fun h=>b3 (a3 h)⟩
 |[],_::_,_,_,e=>by simp[Yj.OY]at e
 |_::_,[],_,_,e=>by simp[Yj.OY]at e
def iZ(N:Nat)(m:QI):AP ⊕ List AP→AV ⊕ List AV→Prop
 | .inl p,.inl x=>Sd N m p x
 | .inr p,.inr x=>CY (Sd N m) p x
 |_,_=>False
theorem iZ.ext{N:Nat}{m m':QI}(h:Ext m m'):∀{p:AP ⊕ List AP} {x:AV ⊕ List AV},iZ N m p x→iZ N m' p x
 | .inl _,.inl _,k=>Sd.ext h k
 | .inr _,.inr _,k=>CY.imp (fun _ _ k=>Sd.ext h k) k
theorem cT{N:Nat}:∀{l:List (AP ⊕ List AP)} {xs:List (AV ⊕ List AV)} {m m':QI},ZW.OY N m l xs=some m'→Ext m m'∧CY (iZ N m') l xs∧(qG m→qG m')
 |[],[],m,m',e=>by simp only[ZW.OY,AM7]at e;subst e;exact⟨Ext.refl _,trivial,fun h=>h⟩
 | .inl p::l,.inl x::xs,m,m',e=>by
  simp only[ZW.OY,ANL]at e;obtain⟨m1,e1,e2⟩:=e;obtain⟨a1,a2,a3⟩:=dv e1;obtain⟨b1,b2,b3⟩:=cT e2;exact⟨a1.trans b1,⟨Sd.ext b1 a2,b2⟩,fun h=>b3 (a3 h)⟩
 | .inr p::l,.inr x::xs,m,m',e=>by
  simp only[ZW.OY,ANL]at e;obtain⟨m1,e1,e2⟩:=e;obtain⟨a1,a2,a3⟩:=XG e1;obtain⟨b1,b2,b3⟩:=cT e2;exact⟨a1.trans b1,⟨CY.imp (fun _ _ k=>Sd.ext b1 k) a2,b2⟩,fun h=>b3 (a3 h)⟩
 |[],_::_,_,_,e=>by simp[ZW.OY]at e
 | .inl _::_,[],_,_,e=>by simp[ZW.OY]at e
 | .inr _::_,[],_,_,e=>by simp[ZW.OY]at e
 | .inl _::_,.inr _::_,_,_,e=>by simp[ZW.OY]at e
 | .inr _::_,.inl _::_,_,_,e=>by simp[ZW.OY]at e
def cW(N:Nat)(m:QI):XP→XV→Prop
 | .c p,.c x=>Sd N m p x
 | .agg l,.agg xs=>CY (Sd N m) l xs
 | .row _,.agg _=>True
 | .Nb l,.Nb xs=>CY (iZ N m) l xs
 |_,_=>False
theorem cW.ext{N:Nat}{m m':QI}(h:Ext m m'):∀{p:XP} {x:XV},cW N m p x→cW N m' p x
 | .c _,.c _,k=>Sd.ext h k
 | .agg _,.agg _,k=>CY.imp (fun _ _ k=>Sd.ext h k) k
 | .row _,.agg _,_=>trivial
 | .Nb _,.Nb _,k=>CY.imp (fun _ _ k=>iZ.ext h k) k
theorem wq{N:Nat}{m m':QI}:∀{p:XP} {x:XV},p.OY N m x=some m'→Ext m m'∧cW N m' p x∧(qG m→qG m')
 | .c p,.c x,e=>dv (by grind[XP.OY])
 | .agg l,.agg xs,e=>XG (by grind[XP.OY])
 | .row r,.agg xs,e=>by simp only[XP.OY,AM7]at e;subst e;exact⟨Ext.refl _,trivial,fun h=>h⟩
 | .Nb l,.Nb xs,e=>cT (by grind[XP.OY])
 | .c _,.agg _,e=>by simp[XP.OY]at e
 | .c _,.Nb _,e=>by simp[XP.OY]at e
 | .agg _,.c _,e=>by simp[XP.OY]at e
 | .agg _,.Nb _,e=>by simp[XP.OY]at e
 | .row _,.c _,e=>by simp[XP.OY]at e
 | .row _,.Nb _,e=>by simp[XP.OY]at e
 | .Nb _,.c _,e=>by simp[XP.OY]at e
 | .Nb _,.agg _,e=>by simp[XP.OY]at e
theorem ec{N:Nat}{tm:List XV}:∀{l:List (Nat×XP)} {m m':QI},HA.OY N tm m l=some m'→
  Ext m m'∧(∀q∈l,∃x,tm[q.1]? =some x∧cW N m' q.2 x)∧(qG m→qG m')
 |[],m,m',e=>by grind[HA.OY,Option.some.injEq,Ext.refl]
 |(i,p)::l,m,m',e=>by
  simp only[HA.OY]at e;split at e
  ·rename_i x hx
   simp only[ANL]at e;obtain⟨m1,e1,e2⟩:=e;obtain⟨a1,a2,a3⟩:=wq e1;obtain⟨b1,b2,b3⟩:=ec e2;refine⟨a1.trans b1,?_,fun h=>b3 (a3 h)⟩;intro q hq;rcases AQQ.1 hq with rfl|hq
   all_goals grind[cW.ext]
  simp_all
theorem XW{N:Nat}{bx:List Bx}:∀{l:List BP} {i:Nat} {m m':QI},J1.OY N bx i m l=some m'→
  Ext m m'∧(∀(k:Nat) q,l[k]? =some (.mem q)→ ∃b cs,m'[i+k]? =some (some b)∧bx[b]? =some (.mem cs)∧CY (Sd N m') q cs)∧
   (∀(k:Nat) d r,l[k]? =some (.sl d r)→ ∃b,m'[i+k]? =some (some b))∧(qG m→qG m')
 |[],i,m,m',e=>by grind[J1.OY,Option.some.injEq,Ext.refl]
 | .mem q::l,i,m,m',e=>by
  simp only[J1.OY]at e;split at e
  ·rename_i b hb
   split at e
   ·rename_i cs xN
    simp only[ANL]at e;obtain⟨m1,e1,e2⟩:=e;obtain⟨a1,a2,a3⟩:=XG e1;obtain⟨b1,b2,b4,b3⟩:=XW e2;refine⟨a1.trans b1,?_,?_,fun h=>b3 (a3 h)⟩
    ·intro k q' hk
     cases k with
     |zero=>cases hk;exact⟨b,cs,b1.2 _ _ (a1.2 _ _ hb),xN,CY.imp (fun _ _ k=>Sd.ext b1 k) a2⟩
     |succ k=>
      grind
    grind
   simp_all
  simp_all
 | .sl d r::l,i,m,m',e=>by
  simp only[J1.OY]at e;split at e
  ·rename_i b hb
   obtain⟨b1,b2,b4,b3⟩:=XW e;refine⟨b1,?_,?_,b3⟩
   ·grind
   ·intro k d r hk
    cases k with
    |zero=>exact⟨b,b1.2 _ _ hb⟩
    |succ k=>
     grind
  simp_all
 | .gone::l,i,m,m',e=>by
  simp only[J1.OY]at e;obtain⟨b1,b2,b4,b3⟩:=XW e;grind
theorem SL{bx bk:List Bx}{Jo:Nat→Nat}:∀{l:List BP} {m:QI} {x:J1.V l},J1.get bx bk m l=some x→(J1.mk Jo l x).length=l.length∧
  ∀(k:Nat) p,l[k]? =some p→ ∃y:p.V,(J1.mk Jo l x)[k]? =some (p.mk Jo y)∧
   match p,y with
   | .mem q,y=> ∃b cs,m[k]? =some (some b)∧bx[b]? =some (.mem cs)∧Yj.get bk q cs=some y
   | .sl d r,y=> ∃b d',m[k]? =some (some b)∧bx[b]? =some (.sl d' r y)∧1≤d∧d≤d'
   | .gone,_=>True
 |[],m,x,e=>⟨rfl,by simp⟩
 | .mem q::l,some b::m,x,e=>by
  simp only[J1.get]at e;split at e
  ·rename_i cs xN
   simp only[ANL,AM9]at e;obtain⟨a,e1,c,e2,rfl⟩:=e;obtain⟨h1,h2⟩:=SL (Jo:=Jo) e2;refine⟨by simp[J1.mk,h1],fun k p hk=> ?_⟩;cases k with
   |zero=>cases hk;exact⟨a,rfl,b,cs,rfl,xN,e1⟩
   |succ k=>
    grind[J1.mk]
  simp_all
 | .sl d r::l,some b::m,x,e=>by
  simp only[J1.get]at e;split at e
  ·rename_i d' q rows hb
   split at e
   ·rename_i hd
    simp only[ANL,AM9]at e;obtain⟨a,e1,c,e2,rfl⟩:=e;obtain⟨e3,e4⟩:=IK e1;subst e3;subst e4;obtain⟨h1,h2⟩:=SL (Jo:=Jo) e2;refine⟨by simp[J1.mk,h1],fun k p hk=> ?_⟩;cases k with
    |zero=>cases hk;exact⟨rows,rfl,b,d',rfl,hb,hd.1,hd.2⟩
    |succ k=>
     grind[J1.mk]
   simp_all
  simp_all
 | .gone::l,o::m,x,e=>by
  have e':(J1.get bx bk m l).map (fun c=>((),c))=some x:=by grind[J1.get]
  simp only[AM9]at e';obtain⟨c,e2,rfl⟩:=e';obtain⟨h1,h2⟩:=SL (Jo:=Jo) e2;refine⟨by simp[J1.mk,h1],fun k p hk=> ?_⟩;cases k with
  |zero=>cases hk;exact⟨(),rfl,trivial⟩
  |succ k=>
   grind[J1.mk]
 | .mem q::l,none::m,x,e=>by simp[J1.get]at e
 | .sl d r::l,none::m,x,e=>by simp[J1.get]at e
 | .mem _::_,[],x,e=>by simp[J1.get]at e
 | .sl _ _::_,[],x,e=>by simp[J1.get]at e
 | .gone::_,[],x,e=>by simp[J1.get]at e
theorem Ku:∀{m:QI} {bx:List Bx},(Cx bx m).length=bx.length
 |[],_=>rfl
 |some b::m,bx=>by simp[Cx,Ku]
 |none::m,bx=>by simp[Cx,Ku]
theorem Tl:∀{m:QI} {bx vw:List Bx},Fa bx vw→Fa (Cx bx m) vw
 |[],_,_,h=>h
 |none::m,bx,vw,h=>by simp only[Cx];exact Tl h
 |some b::m,bx,vw,h=>by
  simp only[Cx];refine Tl fun k B hk=> ?_
  by_cases e:k=b
  ·grind
  ·rw[AT4 (by omega)]at hk
   exact h k B hk
theorem W9:∀{m:QI} {bx:List Bx} {b:Nat} {B:Bx},some b∈m→(Cx bx m)[b]? =some B→B= .dead
 |some c::m,bx,b,B,h,e=>by
  simp only[Cx]at e;by_cases hm:some b∈m
  ·exact W9 hm e
  ·have:c=b:=by
    simp_all
   subst this;have:∀{m:QI} {bx:List Bx},bx[c]? =some .dead→some c∉m→(Cx bx m)[c]? =some .dead:=by
    intro m
    induction m with
    |nil=>intro bx h _;exact h
    |cons o m ih=>
     intro bx h hn;cases o with
     |none=>grind[Cx,List.mem_cons_of_mem]
     |some d=>
      grind[Cx,List.mem_cons_of_mem,List.getElem?_set_ne]
   grind[List.getElem?_eq_some_iff,Ku]
 |none::m,bx,b,B,h,e=>by
  simp only[Cx]at e;exact W9 (by simp_all) e
theorem pM{E:Env}{w:World}{vw:List Bx}:∀{m:QI} {bx:List Bx} {G:ABa},qG m→C7 E w vw bx G→
  ∃Gs:List ABa,Gs.length=m.length∧(∀(k b:Nat) B F,m[k]? =some (some b)→bx[b]? =some B→Gs[k]? =some F→qy E w vw b B F)∧
   C7 E w vw (Cx bx m) (Gs.flatten++G)
 |[],bx,G,_,h=>⟨[],rfl,by simp,h⟩
 |none::m,bx,G,hi,h=>by
  obtain⟨Gs,h1,h2,h3⟩:=pM (m:=m) (fun i j b Dn hj=>by
   have:=hi (i+1) (j+1) b (by simp_all) (by simp_all);omega) h
  refine⟨[]::Gs,by simp[h1],fun k b B F hk hB hF=> ?_,by grind[Cx]⟩;grind
 |some b::m,bx,G,hi,h=>by
  have AID:qG m:=fun i j b Dn hj=>by
   have:=hi (i+1) (j+1) b (by simp_all) (by simp_all);omega
  cases e:bx[b]? with
  |none=>
   have VW:bx.set b .dead=bx:=List.set_eq_of_length_le (by simp_all);obtain⟨Gs,h1,h2,h3⟩:=pM (m:=m) AID h;refine⟨[]::Gs,by simp[h1],fun k b' B F hk hB hF=> ?_,by grind[Cx]⟩;grind
  |some B0=>
   obtain⟨F0,k1,k2⟩:=h.take e;obtain⟨Gs,h1,h2,h3⟩:=pM (m:=m) AID k2;refine⟨F0::Gs,by simp[h1],fun k b' B F hk hB hF=> ?_,?_⟩
   ·cases k with
    |zero=>
     simp_all
    |succ k=>
     have fT:b'≠b:=fun hh=>by
      have:=hi 0 (k+1) b (by simp) (by simp_all);omega
     grind
   ·simp only[Cx]
    refine h3.perm ?_
    grind
end Go.Fw
end
section
namespace Go.Fw
theorem pW{R:Nat→List Nat→List Nat→List Nat→Prop}:∀(Gs:List ABa) (o:Nat),(∀(k:Nat) G,Gs[k]? =some G→ ∃F W,G.Perm (F++W)∧R (o+k) G F W)→
  ∃Fs Ws:List ABa,Fs.length=Gs.length∧Ws.length=Gs.length∧Gs.flatten.Perm (Fs.flatten++Ws.flatten)∧
   ∀(k:Nat) G F W,Gs[k]? =some G→Fs[k]? =some F→Ws[k]? =some W→R (o+k) G F W
 |[],o,_=>⟨[],[],rfl,rfl,by simp,by simp⟩
 |G::Gs,o,h=>by
  obtain⟨F,W,hp,hr⟩:=h 0 G rfl;obtain⟨Fs,Ws,h1,h2,h3,h4⟩:=pW Gs (o+1) (fun k G hk=>by
   have:=h (k+1) G (by simp_all)
   rwa [show o+1+k=o+(k+1)by omega])
  refine⟨F::Fs,W::Ws,by simp[h1],by simp[h2],?_,fun k G' F' W' hG hF hW=> ?_⟩
  all_goals grind
def Ot(E:Env)(w:World)(vw:List Bx)(Jo:Nat→Nat):(l:List (Nat×XP))→HA.V l→List Value→Prop
 |[],_,_=>True
 |(i,p)::l,x,vals=>(∃v,vals[i]? =some v∧XR E w vw (p.mk Jo x.1) v)∧Ot E w vw Jo l x.2 vals
section
variable{E E1:Env} {w:World} {bx bk yO:List Bx} {Fk:List ABa} {m:QI}
theorem S1.map{f:Nat→Nat}(h:∀(i b:Nat),m[i]? =some (some b)→E1.ID i=E.ID b):∀{is bs:ABa},S1 m is bs→
  (is.map fun b=>Value.pointer (some ⟨E1.ID b,0,none⟩))=bs.map fun b=>Value.pointer (some ⟨E.ID b,0,none⟩)
 |[],[],_=>rfl
 |i::is,b::bs,k=>by simp[h i b k.1,S1.map (f:=f) h k.2]
theorem S1.lt:∀{is bs:ABa},S1 m is bs→ ∀i∈is,i<m.length
 |[],[],_,_,h=>by simp at h
 |i::is,b::bs,k,j,h=>by
  rcases AQQ.1 h with rfl|h
  ·exact(AM_.1 k.1).1
  ·exact S1.lt k.2 j h
structure AEw (N:Nat) (E:Env) (w:World) (bx bk:List Bx) (Fk:List ABa) (m:QI) (E1:Env) (yO:List Bx):Prop where
 within:Fa bk bx
 boxes:N6 E w bx bk Fk
 st:∀c,E.S c→E.T c
 T:∀c,qL E Fk c→E1.T c
 S:∀c,E.S c→E1.S c
 ids:∀(i b:Nat),m[i]? =some (some b)→E1.ID i=E.ID b∧E1.IE i=E.IE b
 len:m.length≤yO.length
 nil:∀(i:Nat) d r rows,yO[i]? =some (.sl d r rows)→E.IE (N+i)= .slice none 0 0
 sl:∀(i:Nat) d r rows,i<m.length→yO[i]? =some (.sl d r rows)→ ∃b d',m[i]? =some (some b)∧bx[b]? =some (.sl d' r rows)
variable{N:Nat} (k:AEw N E w bx bk Fk m E1 yO)
include k
theorem AAH{p:AP}{x:AV}{v:Value}(hv:VR E w bx x v)(ha:Sd N m p x){y:p.V}(e:p.get bk x=some y):VR E1 w yO (p.mk id y) v:=by
 cases p with
 |v t=>
  simp only[AP.get]at e;split at e
  ·rename_i hs
   have hr:=VE k.within k.boxes k.st hv e;refine⟨hs,?_⟩;cases t with
   |int _=>grind[Rd]
   |bool=>grind[Rd]
   |str=>grind[Rd]
   |_=>simp[Ty.scalar]at hs
  simp_all
 |sl s r=>
  cases s with
  |false=>
   simp only[AP.get]at e;have hr:=VE k.within k.boxes k.st hv e;simp only[AP.mk,VR];exact F9 k.T (fun _ _=>rfl) (by omega)
  |true=>
   simp only[AP.get]at e;split at e
   ·rename_i q z
    obtain⟨e1,e2⟩:=IK e;subst e1;subst e2;simp only[AP.mk,VR]at hv⊢;exact F9 k.S (fun _ _=>rfl) (by simp_all)
   ·cases e
    simp only[AP.mk,VR]at hv⊢;subst hv;simp only[Rd];simp_all
   simp_all
 |nil=>
  obtain rfl:=ha;exact hv
 |ref i=>
  obtain⟨b,hx,hm⟩:=ha;have hi:=(AM_.1 hm).1;simp only[AP.mk,id,VR];rcases hx with rfl|⟨rfl,rfl⟩
  ·have hsl:=hv.1
   refine⟨hsl,?_⟩;cases e1:yO[i]? with
   |none=>simp at e1;have:=k.len;omega
   |some B=>
    cases B with
    |sl d r rows=>
     obtain⟨b',d',h1,h2⟩:=k.sl i d r rows hi e1;rw[hm]at h1;cases h1;simp only[VR,h2]at hv
     replace hv:=hv.2
     refine⟨by simp[DD],⟨_,rfl⟩,?_⟩;rw[(k.ids i b hm).2];simp_all
    |_=>trivial
  ·have Zf:v= .slice none 0 0:=hv
   subst Zf;refine⟨rfl,?_⟩;cases e1:yO[i]? with
   |none=>simp at e1;have:=k.len;omega
   |some B=>
    cases B with
    |sl d r rows=>
     refine⟨by simp[DD],⟨_,rfl⟩,?_⟩;rw[(k.ids i _ hm).2,k.nil i d r rows e1,C8]
    |_=>trivial
 |ptr i j=>
  obtain⟨b,rfl,hm⟩:=ha;have hi:=(AM_.1 hm).1;exact⟨AT9 hi k.len,by rw[hv.2,id,(k.ids i b hm).1]⟩
 |oe r=>
  simp only[AP.get]at e;split at e
  ·rename_i s q z
   obtain⟨e1,e2⟩:=IK e;subst e1;subst e2;simp only[AP.mk,VR]at hv⊢;obtain⟨bb,o,cs,h1,h2,h3,h4,h5⟩:=hv;have APQ:∀c,(if s=true then E.S else E.T) c→E1.T c:=by
    intro c hc;cases s
    ·exact k.T c (.inl (by simp_all))
    ·exact k.T c (.inl (k.st c (by simp_all)))
   exact⟨bb,o,cs,h1,by simp_all,h3,h4,by simpa using F9 APQ (fun _ _=>rfl) h5⟩
  ·rename_i b
   split at e
   ·rename_i cs hb
    obtain⟨F,⟨hF,arr,ty,fr,ha,hu,Vu⟩,U2⟩:=k.boxes.get hb;have Xc:=hU k.within k.boxes k.st Vu e;simp only[AP.mk,VR];refine⟨E.ID b,0,arr.toList,by simpa using hv.2,?_,lx Xc,?_,by simpa using F9 k.T (fun _ _=>rfl) Xc⟩
    ·simp only[ANZ,AQ7]
     exact k.T _ (.inr (U2 _ (by simp_all)))
    ·intro j u hj
     simp only[AUY,World.cell?,ha,AUH,ANZ,AQ7];simp_all
   simp_all
  ·rename_i b p i sz
   split at e
   ·rename_i d q rows hb
    simp only[ANL]at e;obtain⟨⟨q',ys⟩,e1,e2⟩:=e;split at e2
    case isFalse=>cases e2
    rename_i P9;obtain⟨e3,e4⟩:=IK e2;dsimp only at e3;subst e3;subst e4;simp only[VR,ZY k.within hb]at hv;obtain⟨_,hp,q1,ys1,bb,o,len,cap,hg,hi,hh,rfl⟩:=hv;rw[hg]at e1;simp only[AM7,AN9]at e1;obtain⟨e5,e6⟩:=e1;subst e5;obtain rfl:=ASN e6;have Xc:=eO k.within k.boxes k.st hb hp hg hh;simp only[Rd]at Xc;obtain⟨a',cap',ee,_,Xc⟩:=Xc;simp only[AQ_,Value.slice.injEq,AUD]at ee;obtain⟨rfl,rfl,rfl⟩:=ee;rcases Xc with Xc|⟨b1,o1,e7,hb1,Xc⟩
    ·omega
    ·cases e7
     obtain⟨cs,c1,c2,c3⟩:=Xc i _ (R_ hi);simp only[AP.mk,VR];refine⟨bb,o+i*q1.n,cs,by rw[P9],by simpa using k.T _ hb1,c1,c2,by simpa using F9 k.T (fun _ _=>rfl) c3⟩
   simp_all
  simp_all
 |fn f Ki=>
  obtain⟨bs,rfl,hc⟩:=ha;refine⟨fun i hi=>AT9 (hc.lt i (by simp_all)) k.len,?_⟩;rw[hv.2];simp only[AP.mk,List.map_id];rw[S1.map (f:=id) (fun i b h=>(k.ids i b h).1) hc]
 |sB f rs=>
  simp only[AP.get]at e;split at e
  ·rename_i g rows
   split at e
   case isFalse=>cases e
   rename_i hfg;subst hfg;obtain⟨ps,aa,aw⟩:=hv;refine⟨ps,aa,?_⟩;clear ha aa
   induction rs generalizing rows ps with
   |nil=>
    cases rows with
    |nil=>
     cases ps with
     |nil=>trivial
     |cons _ _=>exact aw.elim
    |cons _ _=>simp[aC.p_]at e
   |cons r rs ih=>
    cases rows with
    |nil=>simp[aC.p_]at e
    |cons q rows=>
     cases ps with
     |nil=>exact aw.elim
     |cons p ps=>
      simp only[aC.p_,ANL,AM9]at e;obtain⟨x1,e1,x2,e2,rfl⟩:=e;obtain⟨q1,q2⟩:=q;obtain⟨e3,e4⟩:=IK e1;dsimp only at e3;subst e3;subst e4;obtain⟨⟨bb,o,cs,h1,h2,h3,h4,h5⟩,aw⟩:=aw;exact⟨⟨bb,o,cs,h1,k.T bb (.inl h2),h3,h4,F9 (fun b hb=>k.T b (.inl hb)) (fun _ _=>rfl) h5⟩,ih rows e2 ps aw⟩
  ·rename_i g bs
   split at e
   case isFalse=>cases e
   rename_i hfg;subst hfg;obtain⟨aa,aw⟩:=hv;refine⟨bs.map fun b=>Value.pointer (some ⟨E.ID b,0,none⟩),aw,?_⟩;clear ha aa aw
   induction rs generalizing bs with
   |nil=>
    cases bs with
    |nil=>trivial
    |cons _ _=>simp[aC.q9]at e
   |cons r rs ih=>
    cases bs with
    |nil=>simp[aC.q9]at e
    |cons b bs=>
     simp only[aC.q9,ANL,AM9]at e;obtain⟨x1,e1,x2,e2,rfl⟩:=e;split at e1
     case h_2=>cases e1
     rename_i cs hb;obtain⟨F,⟨hF,arr,ty,fr,ha,hu,Vu⟩,U2⟩:=k.boxes.get hb;have Xc:=hU k.within k.boxes k.st Vu e1;refine⟨⟨E.ID b,0,arr.toList,rfl,k.T _ (.inr (U2 _ (by simp_all))),lx Xc,?_,F9 k.T (fun _ _=>rfl) Xc⟩,ih bs e2⟩;intro j u hj;simp only[AUY,World.cell?,ha,AUH,ANZ,AQ7];simp_all
  simp_all
 |any=>trivial
 |mb i sz=>
  obtain⟨b,q,j,rfl,hm⟩:=ha;have hi:=(AM_.1 hm).1;simp only[AP.get,AM7]at e;subst e;simp only[AP.mk,id,VR];have hsl:=hv.1;refine⟨hsl,?_⟩;cases e1:yO[i]? with
  |none=>simp at e1;have:=k.len;omega
  |some B=>
   cases B with
   |sl d r rows=>
    obtain⟨b',d',h1,h2⟩:=k.sl i d r rows hi e1;rw[hm]at h1;cases h1;simp only[VR,h2]at hv
    replace hv:=hv.2
    refine⟨hv.1,hv.2.1,?_⟩;rw[(k.ids i b hm).2];simp_all
   |_=>trivial
theorem pL:∀{l:List AP} {xs:List AV} {vs:List Value},jh E w bx xs vs→CY (Sd N m) l xs→ ∀{y:Yj.V l},Yj.get bk l xs=some y→jh E1 w yO (Yj.mk id l y) vs
 |[],[],[],_,_,_,_=>trivial
 |p::l,x::xs,v::vs,hv,ha,y,e=>by
  simp only[Yj.get,ANL,AM9]at e;obtain⟨a,e1,b,e2,rfl⟩:=e;exact⟨AAH k hv.1 ha.1 e1,pL hv.2 ha.2 e2⟩
 |[],[],_::_,hv,_,_,_=>hv.elim
 |_::_,_::_,[],hv,_,_,_=>hv.elim
 |[],_::_,_,_,ha,_,_=>ha.elim
 |_::_,[],_,_,ha,_,_=>ha.elim
theorem vN:∀{l:List (AP ⊕ List AP)} {xs:List (AV ⊕ List AV)} {vs:List Value},CY (TR E w bx) xs vs→CY (iZ N m) l xs→ ∀{y:ZW.V l},ZW.get bk l xs=some y→
  CY (TR E1 w yO) (ZW.mk id l y) vs
 |[],[],[],_,_,_,_=>trivial
 | .inl p::l,.inl x::xs,v::vs,hv,ha,y,e=>by
  simp only[ZW.get,ANL,AM9]at e;obtain⟨a,e1,b,e2,rfl⟩:=e;exact⟨AAH k hv.1 ha.1 e1,vN hv.2 ha.2 e2⟩
 | .inr p::l,.inr x::xs,v::vs,hv,ha,y,e=>by
  simp only[ZW.get,ANL,AM9]at e;obtain⟨a,e1,b,e2,rfl⟩:=e;obtain⟨⟨us,hu,hus⟩,h2⟩:=hv;exact⟨⟨us,hu,pL k hus ha.1 e1⟩,vN h2 ha.2 e2⟩
 | .inl _::_,.inr _::_,_,_,ha,_,_=>ha.1.elim
 | .inr _::_,.inl _::_,_,_,ha,_,_=>ha.1.elim
 |[],[],_::_,hv,_,_,_=>hv.elim
 |_::_,_::_,[],hv,_,_,_=>hv.elim
 |[],_::_,_,_,ha,_,_=>ha.elim
 |_::_,[],_,_,ha,_,_=>ha.elim
theorem ASw{p:XP}{x:XV}{v:Value}(hv:XR E w bx x v)(ha:cW N m p x){y:p.V}(e:p.get bk x=some y):XR E1 w yO (p.mk id y) v:=by
 cases p with
 |c p=>cases x with
  |c x=>exact AAH k hv ha (by grind[XP.get])
  |_=>exact ha.elim
 |agg l=>cases x with
  |agg xs=>
   obtain⟨vs,rfl,Vu⟩:=hv;exact⟨vs,rfl,pL k Vu ha (by grind[XP.get])⟩
  |_=>exact ha.elim
 |row r=>cases x with
  |agg xs=>
   obtain⟨vs,rfl,Vu⟩:=hv;exact⟨vs,rfl,kX k.within k.boxes k.st k.T Vu (by grind[XP.get])⟩
  |_=>exact ha.elim
 |Nb l=>cases x with
  |Nb xs=>
   obtain⟨vs,rfl,Vu⟩:=hv;exact⟨vs,rfl,vN k Vu ha (by grind[XP.get])⟩
  |_=>exact ha.elim
theorem uU{tm:List XV}{vals:List Value}(htm:CY (XR E w bx) tm vals):∀{l:List (Nat×XP)},(∀q∈l,∃x,tm[q.1]? =some x∧cW N m q.2 x)→ ∀{y:HA.V l},HA.get bk tm l=some y→
  Ot E1 w yO id l y vals
 |[],_,_,_=>trivial
 |(i,p)::l,ha,y,e=>by
  obtain⟨x,hx,hax⟩:=ha (i,p) (by simp);simp only[HA.get,hx,ANL,AM9]at e;obtain⟨a,e1,b,e2,rfl⟩:=e;obtain⟨v,hv,hr⟩:=htm.get hx;exact⟨⟨v,hv,ASw k hr hax e1⟩,uU htm (fun q hq=>ha q (by simp[hq])) e2⟩
end
structure vq (E:Env) (w:World) (bx:List Bx) (m:QI) (s:BE) (x:s.V) (vals:List Value) (E1:Env):Prop where
 boxes:C7 E1 w (J1.mk id s.G8 x.2) (J1.mk id s.G8 x.2) []
 D8:Ot E1 w (J1.mk id s.G8 x.2) id s.D8 x.1 vals
 ids:∀(i b:Nat),m[i]? =some (some b)→E1.ID i=E.ID b∧E1.IE i=E.IE b
 inj:qG m
 len:m.length=s.G8.length
 S:∀c,E.S c→E1.S c
 Sof:∀c,E1.S c→E.S c∨ ¬E.T c
 T:∀c,E.T c→E1.T c
 rest:∃Fk,N6 E w bx (Cx bx m) Fk∧Fk.flatten.Nodup∧(∀c∈Fk.flatten,¬E.T c∧ ¬E1.S c∧c<w.heap.size∧E1.T c)∧(∀c,E1.T c→E.T c∨E1.S c∨c∈Fk.flatten)
theorem mm{E:Env}{w:World}{bx:List Bx}{tm:List XV}{vals:List Value}(hB:C7 E w bx bx [])(htm:CY (XR E w bx) tm vals){s:BE}{m0 m:QI}{x:s.V}
  {N:Nat} (AAM:∀(i:Nat) d r,s.G8[i]? =some (.sl d r)→E.IE (N+i)= .slice none 0 0) (hlen:m0.length=s.G8.length) (AID:qG m0) (e:s.fit N m0 tm bx=some (x,m)):Ext m0 m∧ ∃E1,vq E w bx m s x vals E1:=by
 simp only[BE.fit,ANL,AM9]at e;obtain⟨m1,e1,m2,e2,a,e3,c,e4,e5⟩:=e;cases e5;obtain⟨a1,a2,a3⟩:=ec e1;obtain⟨b1,b2,b4,b3⟩:=XW e2;have hi:qG m:=b3 (a3 AID);have yQ:m.length=s.G8.length:=by rw[b1.1,a1.1,hlen]
 refine⟨a1.trans b1,?_⟩;obtain⟨Gs,g1,g2,g3⟩:=pM hi hB;obtain⟨q1,q2⟩:=SL (Jo:=id) e4;have st:=hB.st
 let R:Nat→List Nat→List Nat→List Nat→Prop:=fun k G F W=>
  match s.G8[k]? with
  |some (.sl d r)=> ∀(b d':Nat) (rows:List r.D),m[k]? =some (some b)→bx[b]? =some (.sl d' r rows)→Ow w (fun c=>E.S c∨c∈W) d (.sl r) [E.IE b] rows F
  |some (.mem q)=>F=G∧W=[]
  |_=>F=[]∧W=G
 have AT0:∀(k:Nat) G,Gs[k]? =some G→ ∃F W,G.Perm (F++W)∧R (0+k) G F W:=by
  intro k G hG;rw[AUY];have hk:k<s.G8.length:=by
   grind
  have hp:s.G8[k]? =some s.G8[k]:=AMt hk;cases hb:s.G8[k]with
  |mem q=>exact⟨G,[],by simp,by grind⟩
  |gone=>exact⟨[],G,by simp,by grind⟩
  |sl d r=>
   obtain⟨y,y1,b,d',y2,y3,y4,y5⟩:=q2 k _ (hp.trans (by rw[hb]));obtain⟨_,ho⟩:=g2 k b _ G y2 y3 hG;grind[KG]
 obtain⟨Fs,Ws,f1,f2,f3,f4⟩:=pW Gs 0 AT0;obtain⟨Fk,k1,k2⟩:=g3;simp only[AN6]at k2;have cD:Sep E w (Fk.flatten++(Fs.flatten++Ws.flatten)):=k2.perm (AYE _ f3)
 let E1:Env:={
   ID:=fun i=>match m[i]? with|some (some b)=>E.ID b|_=>0
   IE:=fun i=>match m[i]? with|some (some b)=>E.IE b|_=> .nilFunc
   S:=fun c=>E.S c∨c∈Ws.flatten
   T:=fun c=>E.T c∨c∈Ws.flatten∨c∈Fk.flatten }
 have AE8:∀(i b:Nat),m[i]? =some (some b)→E1.ID i=E.ID b∧E1.IE i=E.IE b:=fun i b h=>by grind
 have fe:AEw N E w bx (Cx bx m) Fk m E1 (J1.mk id s.G8 c):={
  within:=Tl (Fa.refl bx)
  boxes:=k1
  st:=st
  T:=fun d hd=>hd.elim .inl fun h=> .inr (.inr h)
  S:=fun d hd=> .inl hd
  ids:=AE8
  len:=by omega
  nil:=fun i d r rows e=>by
   have hk:i<s.G8.length:=by
    grind
   obtain⟨y,y1,_⟩:=q2 i _ (AMt hk);have hp:=AMt hk;rw[e]at y1
   generalize s.G8[i]=P at y y1 hp
   cases P with
   |mem q=>cases y1
   |gone=>cases y1
   |sl d0 r0=>grind
  sl:=fun i d r rows hi e=>by
   have hk:i<s.G8.length:=by omega
   obtain⟨y,y1,y2⟩:=q2 i _ (AMt hk);rw[e]at y1
   generalize s.G8[i]=P at y y1 y2
   cases P with
   |mem q=>cases y1
   |gone=>cases y1
   |sl d0 r0=>
    simp only[BP.mk,AM7,Bx.sl.injEq]at y1;grind }
 have nd:=cD.nodup;have AEb:∀c∈Fs.flatten,¬E1.T c:=by
  intro d hd h;rcases h with h|h|h
  ·exact cD.free d (by simp[hd]) h
  all_goals grind
 have ASB:Ot E1 w (J1.mk id s.G8 c) id s.D8 a vals:=uU fe htm (fun q hq=>let⟨x,h1,h2⟩:=a2 q hq;⟨x,h1,cW.ext b1 h2⟩) e3;refine⟨E1,vq.mk ?_ ASB AE8 hi yQ (fun d hd=> .inl hd) ?_ (fun d hd=> .inl hd) ⟨Fk,k1,(AOY.1 nd).1,fun d hd=>⟨cD.free d (by simp[hd]),?_,cD.lt d (by simp[hd]),.inr (.inr hd)⟩,?_⟩⟩
 ·refine⟨Fs,⟨by simp_all,fun k B F hk hF=> ?_⟩,?_⟩
  ·have hkl:k<s.G8.length:=by
    grind
   have hp:s.G8[k]? =some s.G8[k]:=AMt hkl;obtain⟨y,y1,y2⟩:=q2 k _ hp;rw[hk]at y1;cases y1;have hG:Gs[k]? =some (Gs[k]'(by omega)):=AMt _;have hW:Ws[k]? =some (Ws[k]'(by omega)):=AMt _;have hr:=f4 k _ F _ hG hF hW;rw[AUY]at hr;have AU5:∀d∈Ws[k]'(by omega),d∈Ws.flatten:=fun d hd=>AT1.2 ⟨_,APy hW,hd⟩
   generalize Afm:s.G8[k]=P at y y2 hp
   have AUg:=fun q=>b2 k q
   simp only[R,hp]at hr;cases P with
   |mem q=>
    obtain⟨b,cs,z1,z2,z3⟩:=y2;obtain⟨rfl,hW0⟩:=hr;obtain⟨hFe,arr,ty,fr,h1,h2,h3⟩:=g2 k b _ _ z1 z2 hG;obtain⟨b',ez,t1,t2,t3⟩:=AUg q hp;rw[AUY,z1]at t1;cases t1;rw[z2]at t2;cases t2;refine⟨by simp_all,arr,ty,fr,by simp_all,h2,pL fe h3 t3 z3⟩
   |sl d r=>
    obtain⟨b,d',z1,z2,z3,z4⟩:=y2;have:=hr b d' y z1 z2;refine⟨z3,?_⟩;rw[(AE8 k b z1).2];exact Eh (fun d hd=>hd.elim .inl fun h=> .inr (AU5 d h)) (fun _ _=>rfl) (fun _ _=>rfl) this
   |gone=>exact hr.1
  ·simp only[AN6]
   refine⟨(AOY.1 (AOY.1 nd).2.1).1,AEb,fun d hd=>cD.lt d (by simp[hd]),fun d hd=>hd.elim (fun h=> .inl (st d h)) (fun h=> .inr (.inl h)),fun d hd=> ?_⟩;rcases hd with hd|hd|hd
   ·exact cD.dr d hd
   ·exact cD.lt d (by simp[hd])
   ·exact cD.lt d (by simp[hd])
 ·intro d hd
  exact hd.elim .inl fun h=> .inr (cD.free d (by simp[h]))
 ·intro h
  rcases h with h|h
  ·exact cD.free d (by simp[hd]) (st d h)
  grind
 grind
end Go.Fw
end
section
namespace Go.Fw
def zv:Ty→Value
 | .int k=> .int k 0
 | .bool=> .bool false
 | .str=> .string ⟨#[]⟩
 |_=> .slice none 0 0
def Ew:Ty→List Value
 | .cons c r=>zv c::Ew r
 | .unit=>[]
 |t=>[zv t]
def Ty.cell:Ty→Bool
 | .unit| .cons _ _=>false
 |_=>true
def Ty.vK:Ty→Bool
 | .cons c r=>c.cell&&r.vK
 |_=>true
def eqZ:Value→Value→Bool
 | .int k n,.int k' n' =>decide (k=k')&&decide (n=n')
 | .bool a,.bool b=>decide (a=b)
 | .string a,.string b=>decide (a.data.toList=[])&&decide (b.data.toList=[])
 | .slice none a b,.slice none c d=>decide (a=c)&&decide (b=d)
 |_,_=>false
theorem ATV{a b:Value}(h:eqZ a b=true):a=b:=by
 unfold eqZ at h;split at h
 ·simp_all
 ·simp_all
 ·rename_i a b
  simp at h;obtain⟨h1,h2⟩:=h;cases a;cases b;simp_all
 all_goals simp_all
def AC0:List Value→List Value→Bool
 |[],[]=>true
 |a::l,b::m=>eqZ a b&&AC0 l m
 |_,_=>false
theorem AAw:∀{l m:List Value},AC0 l m=true→l=m
 |[],[],_=>rfl
 |a::l,b::m,h=>by
  simp only[AC0,ANB]at h;rw[ATV h.1,AAw h.2]
 |[],_::_,h=>by simp[AC0]at h
 |_::_,[],h=>by simp[AC0]at h
def iC(P:Program)(t:Nat):TD→Prop
 | .int k=>P.underlying t=some (.int k)
 | .bool=>P.underlying t=some .bool
 | .str=>P.underlying t=some .string
 | .sl e=>P.underlying t=some (.slice e)
 | .ptr e=>P.underlying t=some (.pointer e)
 | .st fs=> ∃fields,P.underlying t=some (.struct fields)∧fields.toList.map (fun f=>(f.offset,f.type))=fs∧(∀f∈fields.toList,f.name≠ "_" ∧ ∃i,P.info? f.type=some i∧i.size≠0)∧
  P.stoodInHeld t=false∧P.eqGuardType P.depth t=false
 | .other=> ∃d,P.underlying t=some d∧d.isRow=false
structure AVp (P:Program) (T:Jw) (t:Nat) (ti:TI):Prop where
 info:∃i,P.info? t=some i∧i.size=ti.size∧i.bytes=ti.bytes∧(∀r,ti.row=some r→r.vK=true∧ ∃z,i.zero=some z∧z.cells.toList=Ew r)
 und:iC P t ti.desc
def E5(P:Program)(T:Jw):Prop:= ∀t ti,T.get t=some ti→AVp P T t ti
def vx(P:Program)(T:Jw)(t:Nat)(ti:TI):Bool:=
 (match P.info? t with
  |some i=>decide (i.size=ti.size)&&decide (i.bytes=ti.bytes)&&(match ti.row with
   |some r=>r.vK&&(match i.zero with
    |some z=>AC0 z.cells.toList (Ew r)
    |none=>false)
   |none=>true)
  |none=>false)&&
 (match ti.desc,P.underlying t with
  | .int k,some (.int k')=>decide (k=k')
  | .bool,some .bool=>true
  | .str,some .string=>true
  | .sl e,some (.slice e')=>decide (e=e')
  | .ptr e,some (.pointer e')=>decide (e=e')
  | .st fs,some (.struct fields)=>decide (fields.toList.map (fun f=>(f.offset,f.type))=fs)&&
    fields.toList.all (fun f=>decide (f.name≠ "_")&&(match P.info? f.type with|some i=>decide (i.size≠0)|none=>false))&&
    !P.stoodInHeld t&& !P.eqGuardType P.depth t
  | .other,some d=> !d.isRow
  |_,_=>false)
theorem vO{P:Program}{T:Jw}{t:Nat}{ti:TI}(h:vx P T t ti=true):AVp P T t ti:=by
 unfold vx at h;rw[ANB]at h;obtain⟨h1,h2⟩:=h;constructor
 ·split at h1
  ·rename_i i hi
   simp only[ANB,ANo]at h1;refine⟨i,hi,h1.1.1,h1.1.2,fun r hr=> ?_⟩;obtain⟨_,h3⟩:=h1;rw[hr]at h3;dsimp only at h3;rw[ANB]at h3;grind[AAw]
  simp_all
 ·split at h2
  ·grind[iC]
  ·grind[iC]
  ·grind[iC]
  ·grind[iC]
  ·grind[iC]
  ·rename_i fs fields hd hu
   simp only[hd,iC];grind
  all_goals grind[iC]
def AFP(P:Program)(T:Jw):Bool:=T.all fun q=>vx P T q.1 q.2
theorem Jw.get_mem:∀{T:Jw} {t:Nat} {ti:TI},T.get t=some ti→(t,ti)∈T
 |(u,i)::l,t,ti,h=>by
  simp only[Jw.get]at h;split at h
  ·rename_i e;cases h;subst e;simp
  ·exact AYc _ (Jw.get_mem h)
 |[],_,_,h=>by simp[Jw.get]at h
theorem qw{P:Program}{T:Jw}(h:AFP P T=true):E5 P T:=fun t ti e=>
 vO (by simpa using AUS.1 h (t,ti) (Jw.get_mem e))
section
variable{P:Program} {T:Jw} (hT:E5 P T)
include hT
theorem E5.size{t:Nat}{ti:TI}(e:T.get t=some ti):(P.info? t).map (·.size)=some ti.size:=by
 obtain⟨i,h1,h2,_⟩:=(hT t ti e).info;simp_all
theorem E5.sizeOf{t:Nat}{ti:TI}(e:T.get t=some ti)(w:World):(Go.sizeOf t).run P w= .ok ti.size w:=by
 obtain⟨i,h1,h2,_⟩:=(hT t ti e).info;simp[Go.sizeOf,typeInfo,h1,h2]
omit hT in
theorem Bb{t:Nat}{d:TypeDesc}(h:P.underlying t=some d)(w:World):(Go.underlying t).run P w= .ok d w:=by
 simp[Go.underlying,h]
theorem E5.isAgg{t:Nat}{ti:TI}(e:T.get t=some ti)(w:World):(Go.isAgg t).run P w= .ok ti.desc.agg w:=by
 have hu:=(hT t ti e).und;unfold Go.isAgg;cases hd:ti.desc<;>rw[hd]at hu<;>simp only[iC]at hu
 case st fs=>
  obtain⟨fields,hu,_⟩:=hu;simp[Bb hu,TD.agg]
 case other=>
  obtain⟨d,hu,hd⟩:=hu;rw[Sem.run_bind,Bb hu];cases d<;>simp_all[TypeDesc.isRow,TD.agg]
 all_goals simp[Bb hu,TD.agg]
end
end Go.Fw
end
section
namespace Go.Fw
def ME{Y:Type}(P:Program)(o:Oper)(E:Env)(σ:St)(a:Act)(w:World)(k:K Y)(y:Y):Prop:=
 ∃v w' E' x σ',((execOp a.eval o).run P w= .ok (.value v) w'∨((execOp a.eval o).run P w= .ok .skip w'∧v=undef))∧Rel E' σ' a w'∧XR E' w' σ'.bx x v∧SC (Kz (fun _=>none) σ o.op) E σ.bx w E' σ'.bx w'∧
  σ'.tm.length=σ.tm.length∧k x σ' =some y
section
variable{Y:Type} {P:Program} {T:Jw} {o:Oper} {E:Env} {σ:St} {a:Act} {w:World} {k:K Y} {y:Y}
theorem ME.same(h:Rel E σ a w){v:Value}{x:XV}(hr:(execOp a.eval o).run P w= .ok (.value v) w)(hx:XR E w σ.bx x v)(hk:k x σ=some y):ME P o E σ a w k y:=
 ⟨v,w,E,x,σ,.inl hr,h,hx,SC.refl _ E σ.bx w,rfl,hk⟩
theorem cI{vw:List Bx}{κ:IntKind}{n:Int}{v:Value}(h:VR E w vw (.v (.int κ) n) v):v= .int κ n:=by
 have:=h.2;grind[Rd]
theorem TC{vw:List Bx}{b:Bool}{v:Value}(h:VR E w vw (.v .bool b) v):v= .bool b:=by
 have:=h.2;grind[Rd]
theorem YZ{vw:List Bx}{s:ABp}{v:Value}(h:VR E w vw (.v .str s) v):v= .string ⟨s.toArray⟩:=by
 have:=h.2;grind[Rd]
theorem VR.int{vw:List Bx}(κ:IntKind)(n:Int):VR E w vw (.v (.int κ) n) (.int κ n):=⟨rfl,by rfl⟩
theorem VR.bool{vw:List Bx}(b:Bool):VR E w vw (.v .bool b) (.bool b):=⟨rfl,by rfl⟩
theorem VR.str{vw:List Bx}(s:ABp):VR E w vw (.v .str s) (.string ⟨s.toArray⟩):=⟨rfl,by rfl⟩
theorem Wx(s:ABp):ByteArray.toList ⟨s.toArray⟩=s:=by
 simp_all
theorem v_(a b:ABp):(⟨a.toArray⟩:ByteArray)++⟨b.toArray⟩=⟨(a++b).toArray⟩:=by
 rfl
theorem xH(op:BinOp)(t:TypeId)(x y:Operand)(u v:Value)(hu:∀l,u≠ .agg l)(hn:u≠ .nilIface)(w:World):(eqGuard op t x y u v).run P w= .ok () w:=by
 unfold eqGuard;simp_all
theorem yB{op:BinOp}{κ:IntKind}{m n:Int}{k:AV→Option Y}{y:Y}(e:gX op κ m n k=some y)(t:TypeId)(w:World):
  ∃z v,k z=some y∧(binOp op t (.int κ m) (.int κ n)).run P w= .ok v w∧ ∀E vw,VR E w vw z v:=by
 cases op with
 |add=>exact⟨_,.int κ (κ.wrap (m+n)),e,by simp[binOp,Op.intArith],fun _ _=>VR.int _ _⟩
 |sub=>exact⟨_,.int κ (κ.wrap (m-n)),e,by simp[binOp,Op.intArith],fun _ _=>VR.int _ _⟩
 |mul=>exact⟨_,.int κ (κ.wrap (m*n)),e,by simp[binOp,Op.intArith],fun _ _=>VR.int _ _⟩
 |and=>exact⟨_,.int κ (κ.wrap (BitVec.ofInt κ.bits m &&& BitVec.ofInt κ.bits n).toNat),e,by simp[binOp,Op.intBits],fun _ _=>VR.int _ _⟩
 |or=>exact⟨_,.int κ (κ.wrap (BitVec.ofInt κ.bits m ||| BitVec.ofInt κ.bits n).toNat),e,by simp[binOp,Op.intBits],fun _ _=>VR.int _ _⟩
 |xor=>exact⟨_,.int κ (κ.wrap (BitVec.ofInt κ.bits m ^^^ BitVec.ofInt κ.bits n).toNat),e,by simp[binOp,Op.intBits],fun _ _=>VR.int _ _⟩
 |andNot=>exact⟨_,.int κ (κ.wrap (BitVec.ofInt κ.bits m &&& ~~~BitVec.ofInt κ.bits n).toNat),e,by simp[binOp,Op.intBits],fun _ _=>VR.int _ _⟩
 |eql=>exact⟨_,.bool (m==n),e,by simp[binOp,Op.intCmp],fun _ _=>VR.bool _⟩
 |neq=>exact⟨_,.bool (m !=n),e,by simp[binOp,Op.intCmp],fun _ _=>VR.bool _⟩
 |lss=>exact⟨_,.bool (decide (m<n)),e,by simp[binOp,Op.intCmp],fun _ _=>VR.bool _⟩
 |leq=>exact⟨_,.bool (decide (m≤n)),e,by simp[binOp,Op.intCmp],fun _ _=>VR.bool _⟩
 |gtr=>exact⟨_,.bool (decide (m>n)),e,by simp[binOp,Op.intCmp],fun _ _=>VR.bool _⟩
 |geq=>exact⟨_,.bool (decide (m≥n)),e,by simp[binOp,Op.intCmp],fun _ _=>VR.bool _⟩
 |quo=>
  simp only[gX]at e;split at e
  ·cases e
  ·rename_i hz
   exact⟨_,.int κ (κ.wrap (m.tdiv n)),e,by simp[binOp,Op.intDiv,hz],fun _ _=>VR.int _ _⟩
 |rem=>
  simp only[gX]at e;split at e
  ·cases e
  ·rename_i hz
   exact⟨_,.int κ (m.tmod n),e,by simp[binOp,Op.intDiv,hz],fun _ _=>VR.int _ _⟩
 |_=>simp[gX]at e
theorem gY{op:BinOp}{κ κ':IntKind}{m n:Int}{k:AV→Option Y}{y:Y}(e:Zo op κ m n k=some y)(t:TypeId)(w:World):
  ∃z v,k z=some y∧(binOp op t (.int κ m) (.int κ' n)).run P w= .ok v w∧ ∀E vw,VR E w vw z v:=by
 unfold Zo at e;split at e
 ·cases e
 ·rename_i hn
  cases op with
  |shl=>exact⟨_,.int κ (κ.wrap (m*2^min n.toNat κ.bits)),e,by simp[binOp,Op.shift,hn],fun _ _=>VR.int _ _⟩
  |shr=>exact⟨_,.int κ (m.fdiv (2^min n.toNat κ.bits)),e,by simp[binOp,Op.shift,hn],fun _ _=>VR.int _ _⟩
  |_=>simp at e
theorem w4{op:BinOp}{s u:ABp}{k:AV→Option Y}{y:Y}(e:kg op s u k=some y)(t:TypeId)(w:World):
  ∃z v,k z=some y∧(binOp op t (.string ⟨s.toArray⟩) (.string ⟨u.toArray⟩)).run P w= .ok v w∧ ∀E vw,VR E w vw z v:=by
 have h1:=Wx s;have h2:=Wx u;cases op with
 |eql=>exact⟨_,.bool (s==u),e,by simp[binOp,Op.stringOp,h1,h2],fun _ _=>VR.bool _⟩
 |neq=>exact⟨_,.bool (!(s==u)),e,by simp[binOp,Op.stringOp,h1,h2],fun _ _=>VR.bool _⟩
 |lss=>exact⟨_,.bool (Op.bytesLess s u),e,by simp[binOp,Op.stringOp,h1,h2],fun _ _=>VR.bool _⟩
 |leq=>exact⟨_,.bool (Op.bytesLess s u||s==u),e,by simp[binOp,Op.stringOp,h1,h2],fun _ _=>VR.bool _⟩
 |gtr=>exact⟨_,.bool (!(Op.bytesLess s u||s==u)),e,by simp[binOp,Op.stringOp,h1,h2],fun _ _=>VR.bool _⟩
 |geq=>exact⟨_,.bool (!Op.bytesLess s u),e,by simp[binOp,Op.stringOp,h1,h2],fun _ _=>VR.bool _⟩
 |add=>
  simp only[kg]at e;split at e
  ·rename_i hl
   refine⟨_,.string ⟨(s++u).toArray⟩,e,?_,fun _ _=>VR.str _⟩;have hs:(⟨s.toArray⟩:ByteArray).size=s.length:=by rfl
   have hu:(⟨u.toArray⟩:ByteArray).size=u.length:=by rfl
   have Yl: ¬(((⟨s.toArray⟩:ByteArray).size+(⟨u.toArray⟩:ByteArray).size:Nat):Int)>IntKind.i64.max:=by
    grind[DE,IntKind.max,IntKind.signed,IntKind.bits]
   simp only[binOp,Op.stringOp,Sem.run_ite,AM5 Yl,v_];rfl
  simp_all
 |_=>simp[kg]at e
theorem vj{d:TD}{x z:AV}{p:Bool}(e:qp d x z=some p){E:Env}{w:World}{vw:List Bx}{v u:Value}(hx:VR E w vw x v)(hz:VR E w vw z u){t:TypeId}
  (hu:iC P t d) (n:Nat):(Op.equalIn (n+1) t v u).run P w= .ok p w∧d.agg=false:=by
 unfold qp at e;split at e
 ·rename_i κ j a k b
  split at e
  ·rename_i hj
   subst hj;cases e;rw[cI hx,cI hz];exact⟨run_equalIn_int (P:=P) w n t j κ a b hu,rfl⟩
  simp_all
 ·cases e
  rw[TC hx,TC hz];exact⟨run_equalIn_bool' (P:=P) w n t _ _ hu,rfl⟩
 ·cases e
  rename_i a b;rw[YZ hx,YZ hz];have q:=run_equalIn_string (P:=P) w n t ⟨a.toArray⟩ ⟨b.toArray⟩ hu;rw[Wx,Wx]at q;exact⟨q,rfl⟩
 simp_all
theorem gQ{T:Jw}(hT:E5 P T){E:Env}{w:World}{vw:List Bx}{xs ys:Array Value}:∀{fields:List Field} {i:Nat} {l m:List AV} {vs us:List Value} {r:Bool},
  (∀f∈fields,f.name≠ "_")→jh E w vw l vs→jh E w vw m us→Lc T i (fields.map fun f=>(f.offset,f.type)) l m=some r→
  (∀(j:Nat) v,vs[j]? =some v→xs[i+j]? =some v)→(∀(j:Nat) v,us[j]? =some v→ys[i+j]? =some v)→(Op.eqFields 9999 xs ys fields).run P w= .ok r w
 |[],i,[],[],_,_,r,_,_,_,e,_,_=>by
  simp only[AYM,Lc,AM7]at e;subst e;rfl
 |f::fs,i,x::l,z::m,v::vs,u::us,r,hn,hx,hz,e,h1,h2=>by
  simp only[AVt,Lc]at e;split at e
  case isFalse=>cases e
  rename_i ho;have hv:=h1 0 v rfl;have hu:=h2 0 u rfl;simp only[AVe]at hv hu;have AX6:=hn f (by simp);split at e
  case h_2=>cases e
  rename_i ti VI;split at e
  case h_2=>cases e
  rename_i p hp;simp only[AM9]at e;obtain⟨r',e',rfl⟩:=e;have AaR:=gQ hT (fields:=fs) (i:=i+1) (l:=l) (m:=m) (vs:=vs) (us:=us) (r:=r') (fun f hf=>hn f (by simp[hf])) hx.2 hz.2 e'
   (fun j v' hj=>by have:=h1 (j+1) v' (by simp_all);rwa [show i+(j+1)=i+1+j by omega]at this)
   (fun j v' hj=>by have:=h2 (j+1) v' (by simp_all);rwa [show i+(j+1)=i+1+j by omega]at this)
  have kI:=(hT f.type ti VI).und;obtain⟨q,na⟩:=vj (P:=P) hp hx.1 hz.1 (t:=f.type) kI 9998;have kQ:=E5.isAgg hT VI w;rw[na]at kQ;have p1:(part f.type xs f.offset).run P w= .ok v w:=by simp[part,kQ,ho,hv]
  have p2:(part f.type ys f.offset).run P w= .ok u w:=by simp[part,kQ,ho,hu]
  simp only[Op.eqFields,AX6,ne_eq,not_false_eq_true,AT8,Sem.run_bind,p1,p2,Result.andThen_ok,q,AaR,Sem.run_ite,Sem.run_pure];grind
 |[],_,_::_,_,_,_,_,_,_,_,e,_,_=>by simp[Lc]at e
 |[],_,[],_::_,_,_,_,_,_,_,e,_,_=>by simp[Lc]at e
 |_::_,_,[],_,_,_,_,_,_,_,e,_,_=>by simp[Lc]at e
 |_::_,_,x::_,[],_,_,_,_,_,_,e,_,_=>by simp[Lc]at e
 |_::_,_,_::_,_::_,[],_,_,_,hx,_,_,_,_=>hx.elim
 |_::_,_,_::_,_::_,_::_,[],_,_,_,hz,_,_,_=>hz.elim
theorem rF(op:BinOp)(t:TypeId)(p q:Bool)(hu:P.underlying t=some .bool)(w:World):(op= .eql→(binOp op t (.bool p) (.bool q)).run P w= .ok (.bool (p==q)) w)∧
  (op= .neq→(binOp op t (.bool p) (.bool q)).run P w= .ok (.bool (!(p==q))) w):=by
 have h:=run_equalIn_bool' (P:=P) w 9999 t p q hu;constructor
 ·rintro rfl
  grind[binOp,Op.equal,Op.maxDepth,Sem.run_bind,Result.andThen_ok,Sem.run_pure]
 ·rintro rfl
  grind[binOp,Op.equal,Op.maxDepth,Sem.run_bind,Result.andThen_ok,Sem.run_pure]
theorem iR{T:Jw}(hT:E5 P T){t:Nat}{op:BinOp}{x z:XV}{k:AV→Option Y}{y:Y}(e:xe T t op x z k=some y){E:Env}{w:World}{vw:List Bx}{v u:Value}
  (hx:XR E w vw x v) (hz:XR E w vw z u) (ox oz:Operand):
  ∃r val,k r=some y∧(do eqGuard op t ox oz v u;binOp op t v u:Sem Value).run P w= .ok val w∧VR E w vw r val:=by
 have guard:∀(v u:Value),(∀l,v≠ .agg l)→v≠ .nilIface→ ∀val,(binOp op t v u).run P w= .ok val w→(do eqGuard op t ox oz v u;binOp op t v u:Sem Value).run P w= .ok val w:=by
  grind[Sem.run_bind,xH,Result.andThen_ok]
 unfold xe at e;split at e
 ·rename_i j m j' n
  have hv:=cI (E:=E) (vw:=vw) hx;have hu:=cI (E:=E) (vw:=vw) hz;subst hv hu;have done:∀(q:∃r val,k r=some y∧(binOp op t (.int j m) (.int j' n)).run P w= .ok val w∧ ∀E vw,VR E w vw r val),∃r val,k r=some y∧(do eqGuard op t ox oz (.int j m) (.int j' n);binOp op t (.int j m) (.int j' n):Sem Value).run P w= .ok val w∧VR E w vw r val:=by
   grind
  split at e
  ·exact done (gY e t w)
  ·exact done (gY e t w)
  ·split at e
   ·rename_i hj
    subst hj;exact done (yB e t w)
   simp_all
 ·rename_i s s'
  have hv:=YZ (E:=E) (vw:=vw) hx;have hu:=YZ (E:=E) (vw:=vw) hz;subst hv hu;obtain⟨r,val,h1,h2,h3⟩:=w4 (P:=P) e t w;grind
 ·rename_i p q
  have hv:=TC (E:=E) (vw:=vw) hx;have hu:=TC (E:=E) (vw:=vw) hz;subst hv hu;split at e
  ·rename_i ti VI
   have kI:=(hT t ti VI).und;split at e
   ·rename_i hd
    rw[hd]at kI;split at e
    ·exact⟨_,_,e,guard _ _ (by simp) (by simp) _ ((rF _ t p q kI w).1 rfl),VR.bool _⟩
    ·exact⟨_,_,e,guard _ _ (by simp) (by simp) _ ((rF _ t p q kI w).2 rfl),VR.bool _⟩
    simp_all
   simp_all
  simp_all
 ·rename_i l m
  obtain⟨vs,rfl,Vu⟩:=hx;obtain⟨us,rfl,hus⟩:=hz;have key:∀r,((T.fields t).bind fun fs=>Lc T 0 fs l m)=some r→(Op.equalIn 10000 t (.agg vs) (.agg us)).run P w= .ok r w∧P.eqGuardType P.depth t=false:=by
   intro r hr;simp only[ANL]at hr;obtain⟨fs,hf,hr⟩:=hr;unfold Jw.fields at hf;split at hf
   ·rename_i fs' hd
    cases hf;simp only[AM9]at hd;obtain⟨ti,VI,hd⟩:=hd;have kI:=(hT t ti VI).und;rw[hd]at kI;obtain⟨fields,hu,hfs,hnm,pE,hg⟩:=kI;grind[Program.fieldsOf,run_equalIn_agg,gQ]
   simp_all
  split at e
  ·rename_i r hr
   obtain⟨q,hg⟩:=key r hr;refine⟨_,_,e,?_,VR.bool r⟩;grind[Sem.run_bind,run_eqGuard_agg,Result.andThen_ok,run_eql_struct]
  ·rename_i r hr
   obtain⟨q,hg⟩:=key r hr;refine⟨_,_,e,?_,VR.bool (!r)⟩;grind[Sem.run_bind,run_eqGuard_agg,Result.andThen_ok,run_neq_struct]
  simp_all
 simp_all
end
end Go.Fw
end
section
namespace Go.Fw
section
variable{Y:Type} {P:Program} {T:Jw} (hT:E5 P T) {E:Env} {w:World} {vw:List Bx}
include hT
theorem AIH{t:Nat}{s b:Nat}{fs:List ADY}{rw:Option Ty}(e:T.get t=some ⟨s,b,.st fs,rw⟩):∃fields,P.underlying t=some (.struct fields)∧fields.toList.map (fun f=>(f.offset,f.type))=fs∧
  ∀f∈fields.toList,∃i,P.info? f.type=some i∧i.size≠0:=by
 obtain⟨fields,h1,h2,h3,_⟩:=(hT t _ e).und;simp_all
omit hT in
theorem qc{a:Addr}{f:Field}(h:∃i,P.info? f.type=some i∧i.size≠0):(fieldPlace a f).run P w= .ok (a.add f.offset) w:=by
 obtain⟨i,h1,h2⟩:=h;simp[fieldPlace,Go.sizeOf,typeInfo,h1,h2]
theorem Vb{t:Nat}{s b:Nat}{fs:List ADY}{rw:Option Ty}(e:T.get t=some ⟨s,b,.st fs,rw⟩){f o u:Nat}(hf:fs[f]? =some (o,u)){a:Addr}:
  (Instr.fieldAt t (.pointer (some a)) f).run P w= .ok (.pointer (some (a.add o))) w:=by
 obtain⟨fields,h1,h2,h3⟩:=AIH hT e;subst h2;simp only[ATh,AM9]at hf;obtain⟨fld,yZ,he⟩:=hf;have hm:=APy yZ;have hfa:fields[f]? =some fld:=by simp_all
 simp only[ARb]at he;simp[Instr.fieldAt,Bb h1,hfa,Instr.sureAddr,qc (h3 fld hm),he.1]
theorem kb{t:Nat}{x z:XV}{f:Nat}(e:vR T t x f=some z){v:Value}(hx:XR E w vw x v):∃u,(Instr.fieldAt t v f).run P w= .ok u w∧XR E w vw z u:=by
 unfold vR at e;split at e
 case h_2=>cases e
 rename_i s b fs _ VI;split at e
 case h_2=>cases e
 rename_i o u hf;split at e
 ·rename_i b' j
  cases e;obtain⟨h1,rfl⟩:=hx;exact⟨_,Vb hT VI hf,h1,by rw[Addr.add_eq]⟩
 ·rename_i b' p i sz j
  cases e;obtain⟨h0,h1⟩:=hx;cases v with
  |pointer oa=>
   cases oa with
   |none=>simp[dP]at h0
   |some a=>
    obtain⟨ab,ao,sp⟩:=a;cases sp with
    |some _=>simp[dP]at h0
    |none=>
     refine⟨_,Vb hT VI hf,by rw[Addr.add_eq];rfl,?_⟩;revert h1;split
     ·rintro⟨hp,q,ys,bb,o',len,cap,g1,g2,g3,g4⟩
      refine⟨hp,q,ys,bb,o',len,cap,g1,g2,g3,?_⟩;simp only[Value.pointer.injEq,AM7,Addr.mk.injEq,AUD]at g4;grind[Addr.add_eq,Nat.add_assoc]
     all_goals simp_all
  |_=>simp[dP]at h0
 ·rename_i s r y j
  cases e;obtain⟨bb,o',cs,rfl,h2,h3,h4,h5⟩:=hx;refine⟨_,Vb hT VI hf,bb,o',cs,?_,h2,h3,h4,h5⟩;rw[Addr.add_eq,AUs]
 simp_all
theorem nc{t:Nat}{x z:XV}{f:Nat}(e:AFj T t x f=some z){v:Value}(hx:XR E w vw x v):∃u,(Instr.field t v f).run P w= .ok u w∧XR E w vw z u:=by
 unfold AFj at e;split at e
 case h_2=>cases e
 rename_i s b fs _ l VI;obtain⟨vs,rfl,Vu⟩:=hx;split at e
 case h_2=>cases e
 rename_i o u hf;split at e
 case h_2=>cases e
 rename_i ti htu;obtain⟨fields,h1,h2,h3⟩:=AIH hT VI;subst h2;simp only[ATh,AM9]at hf;obtain⟨fld,yZ,he⟩:=hf;have hfa:fields[f]? =some fld:=by simp_all
 simp only[ARb]at he;obtain⟨rfl,rfl⟩:=he;have kQ:=E5.isAgg hT htu w;have P9:=E5.sizeOf hT htu w;split at e
 ·rename_i ha
  cases e;rw[ha]at kQ;refine⟨.agg (vs.extract fld.offset (fld.offset+ti.size)),?_,_,rfl,?_⟩
  ·simp[Instr.field,Bb h1,hfa,asAgg,part,kQ,P9]
  ·have:(vs.extract fld.offset (fld.offset+ti.size)).toList=(vs.toList.drop fld.offset).take ti.size:=by
    simp_all
   rw[this];exact CY.take _ (CY.drop _ Vu)
 ·rename_i ha
  simp only[AQS]at ha;rw[ha]at kQ;simp only[AM9]at e;obtain⟨y,hy,rfl⟩:=e;obtain⟨v,hv,hr⟩:=CY.get Vu hy;refine⟨v,?_,hr⟩;have:vs[fld.offset]? =some v:=by simp_all
  simp[Instr.field,Bb h1,hfa,asAgg,part,kQ,this]
theorem K4{t:Nat}{r:Ty}(h:T.N3 t r=true):∃e ti,P.underlying t=some (.slice e)∧T.get e=some ti∧ti.size=r.n∧ti.bytes≤512∧ti.row=some r:=by
 unfold Jw.N3 at h;split at h
 ·rename_i ti VI
  simp only[ANB,ANo]at h;unfold Jw.elem at VI;split at VI
  ·rename_i e hd
   simp only[AM9]at hd;obtain⟨tj,h1,h2⟩:=hd;have:=(hT t tj h1).und;rw[h2]at this;exact⟨e,ti,this,VI,h.1.1,h.1.2,h.2⟩
  simp_all
 simp_all
theorem YT{t:Nat}(h:T.isStr t=true):P.underlying t=some .string:=by
 unfold Jw.isStr at h;split at h
 ·rename_i hd
  simp only[AM9]at hd;obtain⟨tj,h1,h2⟩:=hd;have:=(hT t tj h1).und;rw[h2]at this;exact this
 simp_all
theorem lL{t:Nat}(h:T.AHb t=true):∃e,P.underlying t=some (.slice e):=by
 unfold Jw.AHb at h;split at h
 ·rename_i e hd
  simp only[AM9]at hd;obtain⟨tj,h1,h2⟩:=hd;have:=(hT t tj h1).und;rw[h2]at this;exact⟨e,this⟩
 simp_all
omit hT in
theorem Iw{x:XV}{n:Int}(e:eD x=some n){v:Value}(hx:XR E w vw x v):∃κ,v= .int κ n:=by
 unfold eD at e;split at e
 ·cases e;exact⟨_,cI (E:=E) (w:=w) (vw:=vw) hx⟩
 ·cases e
theorem fF{t:Nat}{r:Ty}(h:T.N3 t r=true){κ:IntKind}{i:Int}{a:Addr}{len cap:Nat}(h0:0≤i)(h1:i<(len:Int)):
  (Instr.indexAt t (.slice (some a) len cap) (.int κ i)).run P w= .ok (.pointer (some (a.add (i.toNat*r.n)))) w:=by
 obtain⟨e,ti,hu,VI,hs,_⟩:=K4 hT h;have P9:=E5.sizeOf hT VI w;simp[Instr.indexAt,asIntOf,Bb hu,h0,h1,P9,hs]
omit hT in
theorem za{bx:List Bx}{Fs:List ABa}(hB:N6 E w bx bx Fs)(st:∀c,E.S c→E.T c){x:AV}{v:Value}(hv:VR E w bx x v){q:Ty}{ys:List q.D}(e:N8 bx x=some ⟨q,ys⟩):
  ∃a cap,v= .slice a ys.length cap∧ys.length≤cap∧(ys.length=0∨ ∃b o,a=some ⟨b,o,none⟩):=by
 have:=bH (Fa.refl bx) hB st hv e;simp only[Rd]at this;obtain⟨a,cap,h1,h2,h3⟩:=this;simp only[AQ_,AUD]at h1;exact⟨a,cap,h1,h2,h3.imp id fun⟨b,o,h,_⟩=>⟨b,o,h⟩⟩
theorem jP{σ:St}{Fs:List ABa}(hB:N6 E w σ.bx σ.bx Fs)(st:∀c,E.S c→E.T c){t:Nat}{x i:XV}{k:K Y}{y:Y}(e:ld σ T t x i k=some y){v u:Value}
  (hx:XR E w σ.bx x v) (hi:XR E w σ.bx i u):∃z val,k z σ=some y∧(Instr.indexAt t v u).run P w= .ok val w∧XR E w σ.bx z val:=by
 unfold ld at e;split at e
 ·rename_i s r rows n hn
  obtain⟨κ,rfl⟩:=Iw hn hi;split at e
  case isFalse=>cases e
  rename_i VO;split at e
  case isFalse=>cases e
  rename_i hb;obtain⟨h0,h1⟩:=hb;simp only[XR,VR,Rd]at hx;obtain⟨a,cap,hv,hl,hx⟩:=hx;simp only[AQ_,AUD]at hv;subst hv;rcases hx with hx|⟨b,o,rfl,hb,hx⟩
  ·omega
  ·have Hh:n.toNat<rows.length:=by omega
   obtain⟨cs,c1,c2,c3⟩:=hx n.toNat _ (R_ Hh);refine⟨_,_,e,fF hT VO h0 h1,b,o+n.toNat*r.n,cs,?_,by omega,c1,c2,by omega⟩;rw[Addr.add_eq];rfl
 ·rename_i b p n hn
  obtain⟨κ,rfl⟩:=Iw hn hi;split at e
  case h_2=>cases e
  rename_i q hq;split at e
  case isFalse=>cases e
  rename_i VO;split at e
  case isFalse=>cases e
  rename_i hb;obtain⟨h0,h1⟩:=hb
  change VR E w σ.bx (.ref b p) v at hx
  obtain⟨a,cap,rfl,hl,ha⟩:=za hB st hx hq;rcases ha with ha|⟨b',o,rfl⟩
  ·omega
  ·refine⟨_,_,e,fF hT VO h0 h1,by rw[Addr.add_eq];rfl,?_⟩
   simp only[N8]at hq;obtain⟨_,hx⟩:=hx;grind[Addr.add_eq]
 ·rename_i b p off n' n hn
  obtain⟨κ,rfl⟩:=Iw hn hi;split at e
  case h_2=>cases e
  rename_i q hq;split at e
  case isFalse=>cases e
  rename_i VO;split at e
  case isFalse=>cases e
  rename_i hb;obtain⟨h0,h1⟩:=hb;simp only[N8]at hq;obtain⟨h00,hx⟩:=hx;revert hx;split
  ·rename_i d r rows wD
   rw[wD]at hq;dsimp only at hq
   rintro⟨hp,q',ys,a,len,cap,g1,g2,g3,rfl⟩
   have Xc:=eO (Fa.refl _) hB st wD hp g1 g3;simp only[Rd]at Xc;obtain⟨a',cap',ee,hle,Xc⟩:=Xc;simp only[AQ_,Value.slice.injEq,AUD]at ee;obtain⟨rfl,rfl,rfl⟩:=ee;rcases Xc with Xc|⟨b',o,rfl,_,_⟩
   ·omega
   ·unfold WL
    rw[AM5 (by omega)];have hq1:q.1=q':=by
     grind
    refine⟨_,_,e,fF hT VO h0 h1,by simp only[Option.map];rw[Addr.add_eq,Addr.add_eq];rfl,?_⟩;grind[Addr.add_eq,Nat.add_assoc,Nat.add_mul]
  all_goals simp_all
 simp_all
theorem de{σ:St}{t:Nat}{x i:XV}{k:K Y}{y:Y}(e:Xf T t σ x i k=some y){v u:Value}(hx:XR E w vw x v)(hi:XR E w vw i u):
  ∃z val,k z σ=some y∧(Instr.index t v u).run P w= .ok val w∧XR E w vw z val:=by
 unfold Xf at e;split at e
 ·rename_i s n hn
  obtain⟨κ,rfl⟩:=Iw hn hi;have hv:=YZ (E:=E) (w:=w) (vw:=vw) hx;subst hv;split at e
  case isFalse=>cases e
  rename_i pE;split at e
  case isFalse=>cases e
  rename_i hb;obtain⟨h0,h1⟩:=hb;refine⟨_,.int .u8 ((s.getD n.toNat 0).toNat:Int),e,?_,VR.int (E:=E) (vw:=vw) _ _⟩;have Hh:n.toNat<s.length:=by omega
  have:(⟨s.toArray⟩:ByteArray)[n.toNat]? =some s[n.toNat]:=by
   rw[getElem?_pos _ _ (by grind[ByteArray.size])];rfl
  simp[Instr.index,asIntOf,Bb (YT hT pE),h0,this,Hh]
 simp_all
omit hT in
theorem eo{x z:XV}{i:Nat}(e:qk x i=some z){v:Value}(hx:XR E w vw x v):∃u,(Instr.extract v i).run P w= .ok u w∧XR E w vw z u:=by
 unfold qk at e;split at e
 case h_2=>cases e
 rename_i l;obtain⟨vs,rfl,Vu⟩:=hx;split at e
 ·rename_i x hx
  cases e;obtain⟨v,hv,hr⟩:=Vu.get hx;have:vs[i]? =some v:=by simpa using hv
  exact⟨v,by simp[Instr.extract,this],hr⟩
 ·rename_i q hx
  cases e;obtain⟨v,hv,ws,rfl,hr⟩:=Vu.get hx;have:vs[i]? =some (.agg ws):=by simpa using hv
  exact⟨.agg ws,by simp[Instr.extract,this],ws,rfl,hr⟩
 ·cases e
omit hT in
theorem m_{bx:List Bx}{Fs:List ABa}(hB:N6 E w bx bx Fs)(st:∀c,E.S c→E.T c){x:AV}{n:Nat}(e:lenOf bx x=some n){v:Value}(hx:VR E w bx x v):
  ∃a cap,v= .slice a n cap:=by
 cases x with
 |nil=>simp only[lenOf,AM7]at e;subst e;exact⟨_,_,hx⟩
 |sl s r x=>
  simp only[lenOf,AM7]at e;subst e;simp only[VR,Rd]at hx;obtain⟨a,cap,h,_⟩:=hx;simp only[AQ_,AUD]at h;exact⟨a,cap,h⟩
 |ref b p=>
  simp only[lenOf]at e;split at e
  ·rename_i d r rows hb
   simp only[AM9]at e;obtain⟨q,hq,rfl⟩:=e;obtain⟨a,cap,h,_⟩:=za hB st hx (q:=q.1) (ys:=q.2) (by simp only[N8,hb];exact hq);exact⟨a,cap,h⟩
  ·cases e
 |win b p off m=>
  simp only[lenOf]at e;split at e
  ·rename_i d r rows hb
   cases e;simp only[VR,hb]at hx;obtain⟨_,_,q,ys,a,len,cap,_,_,_,rfl⟩:=hx;exact⟨_,_,rfl⟩
  ·cases e
 |_=>simp[lenOf]at e
omit hT in
theorem UX{big:Bool}{x z:XV}{k:AV→Option Y}{y:Y}(e:ui big x z k=some y){v u:Value}(hx:XR E w vw x v)(hz:XR E w vw z u)(t s:Array TypeId)(tt:TypeId):
  ∃r val,k r=some y∧(if big then Builtin.max_ t tt #[v,u]else Builtin.min_ t tt #[v,u]).run P w= .ok val w∧VR E w vw r val:=by
 unfold ui at e;split at e
 ·rename_i j m j' n
  have hv:=cI (E:=E) (w:=w) (vw:=vw) hx;have hu:=cI (E:=E) (w:=w) (vw:=vw) hz;subst hv hu;split at e
  case isFalse=>cases e
  rename_i hj;subst hj;cases big with
  |true=>exact⟨_,.int j (if n>m then n else m),e,by simp[Builtin.max_,Builtin.max2],VR.int _ _⟩
  |false=>exact⟨_,.int j (if n<m then n else m),e,by simp[Builtin.min_,Builtin.min2],VR.int _ _⟩
 ·cases e
omit hT in
theorem mT{op:UnOp}{x:XV}{k:AV→Option Y}{y:Y}(e:unX op x k=some y){v:Value}(hx:XR E w vw x v):
  ∃r val,k r=some y∧(Op.unary op v).run P w= .ok val w∧VR E w vw r val:=by
 unfold unX at e;split at e
 ·have hv:=TC (E:=E) (w:=w) (vw:=vw) hx
  subst hv;exact⟨_,_,e,by simp[Op.unary],VR.bool _⟩
 ·rename_i j n
  have hv:=cI (E:=E) (w:=w) (vw:=vw) hx;subst hv;exact⟨_,.int j (j.wrap (0-n)),e,by simp[Op.unary,Op.intArith],VR.int _ _⟩
 ·cases e
end
end Go.Fw
end
section
namespace Go.Fw
theorem SB{a:Ty}(x:a.D):qZ rfl x=x:=rfl
theorem fk{w:World}{S:Nat→Prop}:∀{r:Ty} {d j:Nat} {cs:List Value} {x:r.D} {F:ABa} {t:Ty} {y:t.D},Ow w S d r cs x F→BQ r j x=some ⟨t,y⟩→
  ∃v F1 F2,cs[j]? =some v∧Ow w S d t [v] y F1∧F.Perm (F1++F2)∧
   ∀(w':World) (S':Nat→Prop) (v':Value) (y':t.D) (pH:ABa) (x':r.D),(∀b,S b→S' b)→(∀b,S b→w'.heap[b]? =w.heap[b]?)→(∀b∈F2,w'.heap[b]? =w.heap[b]?)→
    Ow w' S' d t [v'] y' pH→D_ r j x t y' =some x'→ ∃F',F'.Perm (pH++F2)∧Ow w' S' d r (cs.set j v') x' F'
 | .cons c r,d,0,cs,x,F,t,y,h,e=>by
  simp only[Ow]at h;obtain⟨v,l,A,B,rfl,rfl,h1,h2⟩:=h;simp only[BQ,AM7,AN9]at e;obtain⟨rfl,e⟩:=e;obtain rfl:=ASN e;refine⟨v,A,B,rfl,h1,AYj _,fun w' S' v' y' pH x' hS uP hF ho hx=> ?_⟩;simp only[D_,AYX,SB,AM7]at hx;subst hx;refine⟨pH++B,AYj _,?_⟩;simp only[Ow,AXz];exact⟨v',l,pH,B,rfl,rfl,ho,Eh hS uP hF h2⟩
 | .cons c r,d,j+1,cs,x,F,t,y,h,e=>by
  simp only[Ow]at h;obtain⟨v,l,A,B,rfl,rfl,h1,h2⟩:=h;simp only[BQ]at e;obtain⟨u,F1,F2,k1,k2,k3,k4⟩:=fk h2 e;refine⟨u,F1,A++F2,by simp_all,k2,?_,fun w' S' v' y' pH x' hS uP hF ho hx=> ?_⟩
  ·grind
  ·simp only[D_,AM9]at hx
   obtain⟨z,hz,rfl⟩:=hx;obtain⟨F',p1,p2⟩:=k4 w' S' v' y' pH z hS uP (fun b hb=>hF b (by simp[hb])) ho hz;refine⟨A++F',?_,?_⟩
   ·grind
   ·simp only[Ow,List.set_cons_succ]
    exact⟨v,_,A,F',rfl,rfl,Eh hS uP (fun b hb=>hF b (by simp[hb])) h1,p2⟩
 | .int k,d,0,cs,x,F,t,y,h,e=>by
  simp only[BQ,AM7,AN9]at e;obtain⟨rfl,e⟩:=e;obtain rfl:=ASN e;have hc:=YD h;obtain⟨v,rfl⟩:∃v,cs=[v]:=by
   cases cs with
   |nil=>simp[Ty.n]at hc
   |cons a l=>cases l with
    |nil=>simp_all
    |cons _ _=>simp[Ty.n]at hc
  refine⟨v,F,[],rfl,h,by simp,fun w' S' v' y' pH x' hS uP hF ho hx=>⟨pH,by simp,?_⟩⟩;simp only[D_,AYX,SB,AM7]at hx;simp_all
 | .bool,d,0,cs,x,F,t,y,h,e=>by
  simp only[BQ,AM7,AN9]at e;obtain⟨rfl,e⟩:=e;obtain rfl:=ASN e;have hc:=YD h;obtain⟨v,rfl⟩:∃v,cs=[v]:=by
   cases cs with
   |nil=>simp[Ty.n]at hc
   |cons a l=>cases l with
    |nil=>simp_all
    |cons _ _=>simp[Ty.n]at hc
  refine⟨v,F,[],rfl,h,by simp,fun w' S' v' y' pH x' hS uP hF ho hx=>⟨pH,by simp,?_⟩⟩;simp only[D_,AYX,SB,AM7]at hx;simp_all
 | .str,d,0,cs,x,F,t,y,h,e=>by
  simp only[BQ,AM7,AN9]at e;obtain⟨rfl,e⟩:=e;obtain rfl:=ASN e;have hc:=YD h;obtain⟨v,rfl⟩:∃v,cs=[v]:=by
   cases cs with
   |nil=>simp[Ty.n]at hc
   |cons a l=>cases l with
    |nil=>simp_all
    |cons _ _=>simp[Ty.n]at hc
  refine⟨v,F,[],rfl,h,by simp,fun w' S' v' y' pH x' hS uP hF ho hx=>⟨pH,by simp,?_⟩⟩;simp only[D_,AYX,SB,AM7]at hx;simp_all
 | .sl r,d,0,cs,x,F,t,y,h,e=>by
  simp only[BQ,AM7,AN9]at e;obtain⟨rfl,e⟩:=e;obtain rfl:=ASN e;have hc:=YD h;obtain⟨v,rfl⟩:∃v,cs=[v]:=by
   cases cs with
   |nil=>simp[Ty.n]at hc
   |cons a l=>cases l with
    |nil=>simp_all
    |cons _ _=>simp[Ty.n]at hc
  refine⟨v,F,[],rfl,h,by simp,fun w' S' v' y' pH x' hS uP hF ho hx=>⟨pH,by simp,?_⟩⟩;simp only[D_,AYX,SB,AM7]at hx;simp_all
 | .unit,_,_,_,_,_,_,_,_,e=>by simp[BQ]at e
 | .int _,_,_+1,_,_,_,_,_,_,e=>by simp[BQ]at e
 | .bool,_,_+1,_,_,_,_,_,_,e=>by simp[BQ]at e
 | .str,_,_+1,_,_,_,_,_,_,e=>by simp[BQ]at e
 | .sl _,_,_+1,_,_,_,_,_,_,e=>by simp[BQ]at e
theorem mC{Fs:List ABa}{i:Nat}{G G':ABa}(h:Fs[i]? =some G):(Fs.set i G').flatten.Perm (G'++(Fs.set i []).flatten):=by
 have Hh:=(AM_.1 h).1;have p1:=Ve (Fs:=Fs.set i G') (b:=i) (F:=G') (AUK (by omega));simp_all
theorem vF{w:World}{S:Nat→Prop}{d:Nat}{q:Ty}{a:Option Addr}{len cap:Nat}{ys:List q.D}{F:ABa}(h:Ow w S (d+1) (.sl q) [.slice a len cap] ys F){i:Nat}(hi:i<ys.length):
  ∃b o arr ty fr cs G R,a=some ⟨b,o,none⟩∧w.heap[b]? =some (.cells arr ty fr)∧w_ fr arr.size∧o+i*q.n+q.n≤arr.size∧cs.length=q.n∧Bd w b (o+i*q.n) cs∧
   Ow w S d q cs (rowAt q ys i) G∧F.Perm (G++(b::R))∧
   ∀(w':World) (S':Nat→Prop) (K3:Array Value) (ez:List Value) (bE:q.D) (G':ABa),(∀c,S c→S' c)→(∀c,S c→w'.heap[c]? =w.heap[c]?)→(∀c∈R,w'.heap[c]? =w.heap[c]?)→
    w'.heap[b]? =some (.cells K3 ty fr)→K3.size=arr.size→(∀k,(k<o+i*q.n∨o+i*q.n+q.n≤k)→K3[k]? =arr[k]?)→ez.length=q.n→Bd w' b (o+i*q.n) ez→
    Ow w' S' d q ez bE G'→ ∃F',F'.Perm (G'++(b::R))∧Ow w' S' (d+1) (.sl q) [.slice a len cap] (ys.set i bE) F':=by
 simp only[Ow]at h;obtain⟨a',cap',e,hle,h⟩:=h;simp only[AQ_,Value.slice.injEq,AUD]at e;obtain⟨rfl,rfl,rfl⟩:=e;rcases h with⟨h1,_⟩|⟨b,o,arr,ty,fr,Fs,rfl,hb,P9,hu,rfl,hFl,da⟩
 ·omega
 ·have hG:Fs[i]? =some (Fs[i]'(by omega)):=AMt _
  generalize Fs[i]'(by omega)=G at hG
  obtain⟨cs,c1,c2,c3⟩:=da i _ G (R_ hi) hG;have hbound:o+i*q.n+q.n≤arr.size:=by
   have:(i+1)*q.n≤cap*q.n:=AP0 _ (by omega);grind
  refine⟨b,o,arr,ty,fr,cs,G,(Fs.set i []).flatten,rfl,hb,fun i hi=>hu i (by omega),hbound,c1,c2,c3,?_,?_⟩
  ·refine(List.Perm.cons b (Ve hG)).trans ?_
   exact List.perm_middle.symm
  ·intro w' S' K3 ez bE G' hS uP hR hb' hs' hk aS hca ho
   refine⟨b::(Fs.set i G').flatten,?_,?_⟩
   ·grind[List.Perm.cons,mC,trans]
   ·simp only[Ow]
    refine⟨_,cap,by simp,by simp_all,.inr ⟨b,o,K3,ty,fr,Fs.set i G',rfl,hb',by omega,by simp_all,rfl,by simp_all,fun k y H hy hH=> ?_⟩⟩;by_cases e:k=i
    ·grind
    ·rw[AT4 (by omega)]at hy
     rw[AT4 (by omega)]at hH;obtain⟨ds,d1,d2,d3⟩:=da k y H hy hH;refine⟨ds,d1,fun j v hj=> ?_,Eh hS uP (fun c hc=>hR c (AT1.2 ⟨H,APy (by grind:(Fs.set i [])[k]? =some H),hc⟩)) d3⟩;have yU:=(AM_.1 hj).1;have hold:=d2 j v hj;simp only[World.cell?,hb,AUH,ANZ,AQ7]at hold;simp only[World.cell?,hb',AUH,ANZ,AQ7];rw[hk,hold];rcases Nat.lt_or_gt_of_ne e with e|e
     ·left
      have:(k+1)*q.n≤i*q.n:=AP0 _ e;grind
     ·right
      have:(i+1)*q.n≤k*q.n:=AP0 _ e;grind
theorem rp{w:World}{S:Nat→Prop}:∀{p:List nS} {d:Nat} {r:Ty} {h:Value} {rows:List r.D} {F:ABa} {q:Ty} {ys:List q.D},Ow w S d (.sl r) [h] rows F→DD r rows p→
  HF r rows p=some ⟨q,ys⟩→p.length<d→ ∃h' F1 F2,JB w h p=some h'∧Ow w S (d-p.length) (.sl q) [h'] ys F1∧F.Perm (F1++F2)∧
   ∀(w':World) (S':Nat→Prop) (wI:List q.D) (pH:ABa) (C2:List r.D),(∀c,S c→S' c)→(∀c,S c→w'.heap[c]? =w.heap[c]?)→(∀c∈F2,w'.heap[c]? =w.heap[c]?)→
    Ow w' S' (d-p.length) (.sl q) [h'] wI pH→rA r rows p q wI=some C2→ ∃F',F'.Perm (pH++F2)∧Ow w' S' d (.sl r) [h] C2 F'
 |[],d,r,h,rows,F,q,ys,ho,_,hg,_=>by
  simp only[HF,AM7,AN9]at hg;obtain⟨rfl,e⟩:=hg;obtain rfl:=ASN e;refine⟨h,F,[],C8,ho,by simp,fun w' S' wI pH C2 _ _ _ yY hs=>⟨pH,by simp,?_⟩⟩;simp only[rA,AYX,SB,AM7]at hs;simp_all
 |s::p,d,r,h,rows,F,q,ys,ho,hp,hg,hd=>by
  obtain⟨d,rfl⟩:∃n,d=n+1:=⟨d-1,by omega⟩;simp only[DD]at hp;obtain⟨hi,P9,hp⟩:=hp;simp only[HF]at hg;obtain⟨a,len,cap,rfl⟩:∃a len cap,h= .slice a len cap:=by
   have:=ho;simp only[Ow]at this;grind
  split at hg
  case h_2=>cases hg
  rename_i q' x' jE;rw[jE]at hp;obtain⟨b,o,arr,ty,fr,cs,G,R,rfl,hb,hu,hbd,c1,c2,c3,rJ,hback⟩:=vF ho hi;obtain⟨v,A1,A2,k1,k2,k3,k4⟩:=fk c3 jE;obtain⟨h',F1,F2,m1,m2,m3,m4⟩:=rp k2 hp hg (by simp_all);have APQ:d+1-(s::p).length=d-p.length:=by simp
  refine⟨h',F1,F2++A2++(b::R),?_,by simp_all,?_,?_⟩
  ·simp only[JB]
   rw[P9,c2 _ _ k1];omega
  ·grind
  ·intro w' S' wI pH C2 hS uP hF2 yY VW
   rw[APQ]at yY;simp only[rA,jE]at VW;simp only[ANL,AM9]at VW;obtain⟨x2,hx2,bE,hrow,rfl⟩:=VW;obtain⟨B1,p1,p2⟩:=m4 w' S' wI pH x2 hS uP (fun c hc=>hF2 c (by simp[hc])) yY hx2;obtain⟨B2,p3,p4⟩:=k4 w' S' v x2 B1 bE hS uP (fun c hc=>hF2 c (by simp[hc])) p2 hrow;have AG0:cs.set s.j v=cs:=by
    apply AXF;grind
   rw[AG0]at p4;have hbb:=hF2 b (by simp);obtain⟨F',p5,p6⟩:=hback w' S' arr cs bE B2 hS uP (fun c hc=>hF2 c (by simp[hc])) (hbb.trans hb) rfl (fun _ _=>rfl) c1 (c2.of_block hbb) p4;grind
end Go.Fw
end
section
namespace Go.Fw
def OR(E:Env)(w:World)(vw:List Bx):Option XV→Option Value→Prop
 |none,none=>True
 |some x,some v=>XR E w vw x v
 |_,_=>False
section
variable{Y:Type} {P:Program} {T:Jw} (hT:E5 P T) {E:Env} {w:World} {vw:List Bx}
theorem run_sliceBound{κ:IntKind}{i:Int}{y:Nat}{code:BoundsCode}(h0:0≤i)(h1:i≤(y:Int)):(Instr.sliceBound (.int κ i) y code).run P w= .ok i.toNat w:=by
 simp[Instr.sliceBound,asIntOf,h0,h1]
theorem UJ{len cap:Nat}(hc:len≤cap){lo hi:Option XV}{k:Nat→Nat→Option Y}{y:Y}(e:Ol len lo hi k=some y){lv hv:Option Value}
  (hl:OR E w vw lo lv) (hh:OR E w vw hi hv) (b:Bool):∃l h,k l h=some y∧l≤h∧h≤len∧(Instr.sliceBounds b len cap lv hv none).run P w= .ok (l,h,cap) w:=by
 unfold Ol at e;dsimp only at e;split at e
 case h_2=>cases e
 rename_i l h el eh;split at e
 case isFalse=>cases e
 rename_i hb;obtain⟨b1,b2,b3⟩:=hb;refine⟨l.toNat,h.toNat,e,by omega,by omega,?_⟩;cases hi with
 |none=>cases hv with
  |some _=>exact hh.elim
  |none=>
   simp only[AM7]at eh;subst eh;cases lo with
   |none=>cases lv with
    |some _=>exact hl.elim
    |none=>
     simp only[AM7]at el;subst el;rfl
   |some x=>cases lv with
    |none=>exact hl.elim
    |some v=>
     obtain⟨κ,rfl⟩:=Iw (E:=E) (w:=w) (vw:=vw) el hl;simp[Instr.sliceBounds,run_sliceBound (P:=P) (w:=w) (κ:=κ) (i:=l) (y:=len) b1 (by omega)]
 |some x=>cases hv with
  |none=>exact hh.elim
  |some v=>
   obtain⟨κ,rfl⟩:=Iw (E:=E) (w:=w) (vw:=vw) eh hh;have e1:=fun code=>run_sliceBound (P:=P) (w:=w) (κ:=κ) (i:=h) (y:=cap) (code:=code) (by omega) (by omega)
   cases lo with
   |none=>cases lv with
    |some _=>exact hl.elim
    |none=>
     simp only[AM7]at el;subst el;simp[Instr.sliceBounds,e1]
   |some x=>cases lv with
    |none=>exact hl.elim
    |some v=>
     obtain⟨κ',rfl⟩:=Iw (E:=E) (w:=w) (vw:=vw) el hl;have e2:=fun code=>run_sliceBound (P:=P) (w:=w) (κ:=κ') (i:=l) (y:=h.toNat) (code:=code) b1 (by omega)
     simp[Instr.sliceBounds,e1,e2]
theorem sJ(s:ABp)(l h:Nat):(⟨s.toArray⟩:ByteArray).extract l h=⟨((s.drop l).take (h-l)).toArray⟩:=by
 apply ByteArray.ext;simp[List.extract_eq_take_drop]
include hT
theorem jf{σ:St}{Fs:List ABa}(hB:N6 E w σ.bx σ.bx Fs)(st:∀c,E.S c→E.T c){t:Nat}{x:XV}{lo hi:Option XV}{k:K Y}{y:Y}(e:lu T t σ x lo hi k=some y)
  {v:Value} {lv hv:Option Value} (hx:XR E w σ.bx x v) (hl:OR E w σ.bx lo lv) (hh:OR E w σ.bx hi hv):
  ∃z val,k z σ=some y∧(Instr.sliceAt t v lv hv none).run P w= .ok val w∧XR E w σ.bx z val:=by
 unfold lu at e;split at e
 ·rename_i s
  split at e
  case isFalse=>cases e
  rename_i pE;have hu:=YT hT pE;have Zf:=YZ (E:=E) (w:=w) (vw:=σ.bx) hx;subst Zf;obtain⟨l,h,ek,h1,h2,hr⟩:=UJ (P:=P) (cap:=s.length) (AQm _) e hl hh false;refine⟨_,.string ⟨((s.drop l).take (h-l)).toArray⟩,ek,?_,VR.str (E:=E) (vw:=σ.bx) _⟩;have hs:(⟨s.toArray⟩:ByteArray).size=s.length:=by rfl
  simp[Instr.sliceAt,Bb hu,Instr.slice,hs,hr,sJ]
 ·rename_i s r rows
  split at e
  case isFalse=>cases e
  rename_i VO;obtain⟨el,ti,hu,VI,hs,_⟩:=K4 hT VO;have P9:=E5.sizeOf hT VI w
  change VR E w σ.bx (.sl s r rows) v at hx
  have wF:=hx;simp only[VR,Rd]at wF;obtain⟨a,cap,Zf,hle,_⟩:=wF;simp only[AQ_,AUD]at Zf;subst Zf;obtain⟨l,h,ek,h1,h2,hr⟩:=UJ (P:=P) hle e hl hh true;refine⟨_,WL r.n l (h-l) a cap,ek,?_,?_⟩
  ·simp[Instr.sliceAt,Bb hu,Instr.slice,hr,P9,hs,WL]
  grind[XR,VR,zK]
 ·rename_i b p
  split at e
  case h_2=>cases e
  rename_i q hq;split at e
  case isFalse=>cases e
  rename_i VO;obtain⟨el,ti,hu,VI,hs,_⟩:=K4 hT VO;have P9:=E5.sizeOf hT VI w
  change VR E w σ.bx (.ref b p) v at hx
  obtain⟨a,cap,rfl,hle,_⟩:=za hB st hx hq;obtain⟨l,h,ek,h1,h2,hr⟩:=UJ (P:=P) hle e hl hh true;refine⟨_,WL q.1.n l (h-l) a cap,ek,?_,?_⟩
  ·simp[Instr.sliceAt,Bb hu,Instr.slice,hr,P9,hs,WL]
  ·simp only[N8]at hq
   obtain⟨_,hx⟩:=hx;refine⟨by rfl,?_⟩;grind
 simp_all
omit hT in
theorem cJ{f:Nat→Option AV}:∀{n j:Nat} {l:List AV},eZ f j n=some l→l.length=n∧ ∀(i:Nat) x,l[i]? =some x→f (j+i)=some x
 |0,j,l,e=>by simp only[eZ,AM7]at e;subst e;simp
 |n+1,j,l,e=>by
  simp only[eZ,ANL,AM9]at e;obtain⟨x,hx,l',hl,rfl⟩:=e;obtain⟨h1,h2⟩:=cJ hl;refine⟨by simp[h1],fun i z hz=> ?_⟩;cases i with
  |zero=>simp at hz;subst hz;exact hx
  |succ i=>
   have:=h2 i z (by simpa using hz)
   rwa [show j+1+i=j+(i+1)by omega]at this
omit hT in
theorem Xa{B:Nat→Prop}{t:Ty}{x:t.D}{v:Value}(h:Rd w B t [v] x)(hs:t.scalar=true):VR E w vw (.v t x) v:=by
 refine⟨hs,?_⟩;cases t<;>first
  |(simpa only[Rd]using h)
  |(simp[Ty.scalar]at hs)
omit hT in
theorem ACg{s:Bool}{t:Ty}{x:t.D}{v:Value}(h:Rd w (if s then E.S else E.T) t [v] x):VR E w vw (AAB s ⟨t,x⟩) v:=by
 cases t with
 |sl r=>simp only[AAB,VR];exact h
 |int k=>exact Xa h rfl
 |bool=>exact Xa h rfl
 |str=>exact Xa h rfl
 |unit=>trivial
 |cons c r=>trivial
omit hT in
theorem nT{s:nS}:∀{p:List nS} {r:Ty} {rows:List r.D} {q:Ty} {ys:List q.D} {t:Ty} {x:List t.D},DD r rows p→HF r rows p=some ⟨q,ys⟩→s.i<ys.length→s.sz=q.n→
  BQ q s.j (rowAt q ys s.i)=some ⟨.sl t,x⟩→DD r rows (p++[s])∧HF r rows (p++[s])=some ⟨t,x⟩
 |[],r,rows,q,ys,t,x,_,hg,hi,hs,hc=>by
  simp only[HF,AM7,AN9]at hg;obtain⟨rfl,e⟩:=hg;obtain rfl:=ASN e;refine⟨?_,?_⟩
  ·simp only[AT6,DD,hc]
   exact⟨hi,hs,trivial⟩
  ·simp only[AT6,HF,hc]
 |s'::p,r,rows,q,ys,t,x,hp,hg,hi,hs,hc=>by
  simp only[DD]at hp;obtain⟨h1,h2,hp⟩:=hp;simp only[HF]at hg;split at hg
  ·rename_i q' x' jE
   rw[jE]at hp;obtain⟨a,b⟩:=nT hp hg hi hs hc;refine⟨?_,?_⟩
   ·simp only[AVo,DD,jE]
    exact⟨h1,h2,a⟩
   ·simp only[AVo,HF,jE]
    exact b
  ·cases hg
omit hT in
theorem qH{s:nS}:∀{p:List nS} {h:Value} {b o len cap:Nat} {v:Value},JB w h p=some (.slice (some ⟨b,o,none⟩) len cap)→w.cell? ⟨b,o+s.i*s.sz+s.j,none⟩=some v→
  JB w h (p++[s])=some v
 |[],h,b,o,len,cap,v,e,hc=>by
  rw[C8]at e;cases e;simp[JB,hc,C8]
 |s'::p,h,b,o,len,cap,v,e,hc=>by
  cases h with
  |slice a l c=>
   cases a with
   |none=>simp[JB]at e
   |some a=>
    simp only[JB]at e;split at e
    ·rename_i h' hh
     simp only[AVo,JB,hh];exact qH e hc
    ·cases e
  |_=>simp[JB]at e
omit hT in
theorem ML{bx:List Bx}{Fs:List ABa}(hB:N6 E w bx bx Fs)(st:∀c,E.S c→E.T c){x z:AV}{i:Nat}(e:Jj bx x i=some z){v:Value}(hx:VR E w bx x v):
  ∃b o u,v= .pointer (some ⟨b,o,none⟩)∧w.cell? ⟨b,o+i,none⟩=some u∧VR E w bx z u:=by
 cases x with
 |Ip b j=>
  simp only[Jj]at e;split at e
  ·rename_i cs hb
   obtain⟨F,⟨_,arr,ty,fr,ha,hu,hv⟩,_⟩:=hB.get hb;obtain⟨u,h1,h2⟩:=CY.get hv e;refine⟨_,_,u,hx.2,?_,h2⟩;simp only[World.cell?,ha,AUH,ANZ,AQ7];simpa using h1
  ·cases e
 |Jk b p r sz j=>
  simp only[Jj]at e;split at e
  ·rename_i d q rows hb
   split at e
   case isFalse=>cases e
   rename_i hd;simp only[ANL]at e;obtain⟨⟨q',wI⟩,hg,e⟩:=e;split at e
   case isFalse=>cases e
   rename_i P9;simp only[AM9]at e;obtain⟨⟨t,y⟩,hc,rfl⟩:=e;simp only[VR,hb]at hx;obtain⟨_,hp,q1,ys,bb,o,len,cap,g1,g2,g3,rfl⟩:=hx;rw[hg]at g1;simp only[AM7,AN9]at g1;obtain⟨rfl,g1⟩:=g1;obtain rfl:=ASN g1;dsimp only at P9 hc;obtain⟨F,⟨hd1,ho⟩,hF⟩:=hB.get hb;have Xc:=eO (Fa.refl bx) hB st hb hp hg g3;have AUx:=Xc;simp only[Rd]at Xc;obtain⟨a',cap',ee,hle,Xc⟩:=Xc;simp only[AQ_,Value.slice.injEq,AUD]at ee;obtain⟨rfl,rfl,rfl⟩:=ee;rcases Xc with Xc|⟨b1,o1,e7,_,Xc⟩
   ·omega
   ·cases e7
    obtain⟨cs,c1,c2,c3⟩:=Xc r _ (R_ g2);obtain⟨u,hu,hur⟩:=fq c3 hc;have bM:=c2 _ _ hu;rw[←P9]at bM;refine⟨_,_,u,rfl,by rw[AUs];exact bM,?_⟩;cases t with
    |sl t' =>
     simp only[AAu];split
     ·rename_i hdd
      obtain⟨h',F1,F2,m1,m2,_,_⟩:=rp ho hp hg hd;rw[g3]at m1;cases m1;rw[show d-p.length=0+1 by omega]at m2;obtain⟨b2,o2,arr,ty,fr,cs2,G,R,e2,_,_,_,_,k2,k3,_,_⟩:=vF m2 g2;cases e2;obtain⟨v2,A1,A2,z1,z2,_,_⟩:=fk k3 hc;have AFg:=k2 _ _ z1;rw[←P9,bM]at AFg;cases AFg;simp only[Ow]at z2;simp only[VR];exact z2.1
     ·simp only[VR,hb]
      have:=nT (s:=⟨r,sz,j+i⟩) hp hg g2 P9 hc;simp only[Rd]at hur;obtain⟨a2,cap2,e2,_⟩:=hur;simp only[AQ_,AUD]at e2;refine⟨by rw[e2];rfl,this.1,⟨_,this.2⟩,qH g3 bM⟩
    |int k=>exact Xa hur rfl
    |bool=>exact Xa hur rfl
    |str=>exact Xa hur rfl
    |unit=>trivial
    |cons c r=>trivial
  ·cases e
 |P8 s r y j=>
  simp only[Jj,AM9]at e;obtain⟨⟨t,y'⟩,hc,rfl⟩:=e;obtain⟨bb,o,cs,rfl,h2,h3,h4,h5⟩:=hx;obtain⟨u,hu,hur⟩:=fq h5 hc;refine⟨_,_,u,rfl,by rw[AUs];exact h4 _ _ hu,ACg hur⟩
 |_=>simp[Jj]at e
omit hT in
theorem du{bx:List Bx}{Fs:List ABa}(hB:N6 E w bx bx Fs)(st:∀c,E.S c→E.T c){x:AV}{v:Value}(hx:VR E w bx x v){b o:Nat}(hv:v= .pointer (some ⟨b,o,none⟩)):
  ∀{l:List AV} {j:Nat},(∀(i:Nat) z,l[i]? =some z→Jj bx x (j+i)=some z)→ ∃cs:List Value,cs.length=l.length∧Bd w b (o+j) cs∧jh E w bx l cs
 |[],_,_=>⟨[],rfl,fun _ _ h=>by simp at h,trivial⟩
 |z::l,j,h=>by
  obtain⟨b',o',u,e1,e2,e3⟩:=ML hB st (h 0 z rfl) hx;subst hv;simp only[Value.pointer.injEq,AM7,Addr.mk.injEq,AUD]at e1;obtain⟨rfl,rfl⟩:=e1;obtain⟨cs,c1,c2,c3⟩:=du hB st hx rfl (l:=l) (j:=j+1) (fun i y hy=>by
   have:=h (i+1) y (by simpa using hy)
   rwa [show j+1+i=j+(i+1)by omega])
  refine⟨u::cs,by simp[c1],fun i y hy=> ?_,e3,c3⟩;cases i with
  |zero=>simp at hy;subst hy;exact e2
  |succ i=>
   have:=c2 i y (by simpa using hy)
   rwa [show o+(j+1)+i=o+j+(i+1)by omega]at this
theorem xT{σ:St}{Fs:List ABa}(hB:N6 E w σ.bx σ.bx Fs)(st:∀c,E.S c→E.T c){t:Nat}{x z:XV}(e:nI T t σ x=some z){v:Value}(hx:XR E w σ.bx x v):
  ∃u,(Instr.loadAt t v).run P w= .ok u w∧XR E w σ.bx z u:=by
 unfold nI at e;split at e
 case h_2=>cases e
 rename_i x ti VI;split at e
 case isTrue=>cases e
 rename_i P9;have kQ:=E5.isAgg hT VI w;split at e
 ·rename_i ha
  rw[ha]at kQ;simp only[AM9]at e;obtain⟨l,hl,rfl⟩:=e;obtain⟨h1,h2⟩:=cJ hl;have h0:0<l.length:=by omega
  obtain⟨b,o,u,hv,_,_⟩:=ML hB st (h2 0 _ (AMt h0)) hx;obtain⟨cs,c1,c2,c3⟩:=du hB st hx hv (l:=l) (j:=0) (fun i y hy=>by simp_all);subst hv;have kI:=(hT t ti VI).und;cases hd:ti.desc with
  |st fs=>
   rw[hd]at kI;obtain⟨fields,hu,_⟩:=kI;refine⟨.agg cs.toArray,run_loadAt_mid w b o t cs _ (by grind[Bd,World.rangeAt]) hu rfl ?_,cs.toArray,rfl,by omega⟩;grind[E5.size]
  |_=>grind[TD.agg]
 ·rename_i ha
  simp only[AQS]at ha;rw[ha]at kQ;simp only[AM9]at e;obtain⟨y,hy,rfl⟩:=e;obtain⟨b,o,u,hv,hc,hr⟩:=ML hB st hy hx;subst hv;refine⟨u,?_,hr⟩;simp only[AVe]at hc;simp[Instr.loadAt,Instr.sureAddr,loadVar,kQ,hc]
end
end Go.Fw
end
section
namespace Go.Fw
theorem pt{w:World}{S:Nat→Prop}{d:Nat}{q:Ty}:Ow w S d (.sl q) [.slice none 0 0] [] []:=by
 cases d with
 |zero=>simp only[Ow,Rd];simp_all
 |succ d=>simp only[Ow];simp_all
theorem AFe{w:World}{S:Nat→Prop}{d:Nat}{r:Ty}{a:Option Addr}{len cap:Nat}{ys:List r.D}{F:ABa}(h:Ow w S (d+1) (.sl r) [.slice a len cap] ys F){off n:Nat}(hn:off+n≤ys.length):
  ∃F1 F2,F.Perm (F1++F2)∧Ow w S (d+1) (.sl r) [WL r.n off n a cap] ((ys.drop off).take n) F1:=by
 simp only[Ow]at h⊢;obtain⟨a',cap',e,hc,h⟩:=h;simp only[AQ_,Value.slice.injEq,AUD]at e;obtain⟨rfl,rfl,rfl⟩:=e;have hl:((ys.drop off).take n).length=n:=by grind
 by_cases h0:cap=off
 ·subst h0
  refine⟨[],F,by simp,a,0,by simp[WL,hl],by omega,.inl ⟨rfl,rfl⟩⟩
 ·rcases h with⟨h,rfl⟩|⟨b,o,arr,ty,fr,Fs,rfl,hb,P9,hu,rfl,hFl,hr⟩
  ·omega
  ·have p:Fs.flatten.Perm (((Fs.drop off).take n).flatten++((Fs.take off).flatten++(Fs.drop (off+n)).flatten)):=by
    grind[List.drop_drop,List.take_append_drop,List.flatten_append,List.append_assoc,List.Perm.append_right,List.perm_append_comm]
   refine⟨b::((Fs.drop off).take n).flatten,(Fs.take off).flatten++(Fs.drop (off+n)).flatten,List.Perm.cons b p,some ⟨b,o+off*r.n,none⟩,cap-off,?_,by omega,.inr ⟨b,o+off*r.n,arr,ty,fr,_,rfl,hb,?_,hu,rfl,?_,?_⟩⟩
   ·grind[WL,Addr.add_eq]
   ·have:off*r.n+(cap-off)*r.n=cap*r.n:=by rw[←AUV];grind
    omega
   all_goals grind
theorem Le.keep{E E':Env}(h:Le E E'){w:World}{vw:List Bx}(st:∀c,E.S c→E.T c):Tp E w vw E' w vw:=
 ⟨AQm _,fun b _=>by rw[h.ID],h.T,h.S,st,fun _ _=>rfl,fun b d r rows _ e=>⟨d,rows,e,fun p hp q ys hg=>⟨hp,⟨ys,hg,rfl⟩,fun h' hh=>by rw[h.IE];omega⟩⟩⟩
theorem C7.share{E:Env}{w:World}{vw bx:List Bx}{F W G:ABa}(h:C7 E w vw bx (F++W++G)):
  let E':Env:={ E with S:=fun c=>E.S c∨c∈W,T:=fun c=>E.T c∨c∈W }
  Le E E'∧C7 E' w vw bx (F++G):=by
 intro E';have st:=h.st;have hle:Le E E':=⟨rfl,rfl,fun c hc=> .inl hc,fun c hc=> .inl hc,fun c hc=>hc.elim .inl fun h' => .inr (.inr h'),fun c hc=>hc.elim .inl fun h' => .inr (h.AEV c (by simp[h']))⟩;refine⟨hle,?_⟩;obtain⟨Fs,⟨h1,h2⟩,h3⟩:=h;refine⟨Fs,⟨h1,fun k B F' hk hF=> ?_⟩,?_⟩
 ·have:=h2 k B F' hk hF
  cases B with
  |mem cs=>
   obtain⟨rfl,arr,ty,fr,a1,a2,a3⟩:=this;exact⟨rfl,arr,ty,fr,a1,a2,a3.imp fun _ _ hv=>Gd (hle.keep st) hv⟩
  |sl d r rows=>exact⟨this.1,Eh hle.S (fun _ _=>rfl) (fun _ _=>rfl) this.2⟩
  |dead=>exact this
 ·have h4:Sep E w (W++(Fs.flatten++(F++G))):=h3.perm (by
   grind)
  refine⟨(AOY.1 h4.nodup).2.1,fun c hc ht=> ?_,fun c hc=>h4.lt c (by simp_all),fun c hc=>hc.imp (st c) id,fun c hc=>hc.elim (h4.dr c) fun h' =>h4.lt c (by simp[h'])⟩;rcases ht with ht|ht
  ·exact h4.free c (AOt.2 (.inr hc)) ht
  ·exact(AOY.1 h4.nodup).2.2 c ht c hc rfl
structure HM (E:Env) (w:World) (vw bx:List Bx) (G:ABa) (E':Env) (Q7:List Bx) (F:ABa):Prop where
 le:Le E E'
 len:Q7.length=bx.length
 within:∀(b:Nat) (B:Bx),Q7[b]? =some B→B= .dead∨bx[b]? =some B
 boxes:C7 E' w vw Q7 (F++G)
theorem HM.refl{E:Env}{w:World}{vw bx:List Bx}{G:ABa}(h:C7 E w vw bx G):HM E w vw bx G E bx []:=
 ⟨Le.refl E,rfl,fun _ _ h=> .inr h,h⟩
theorem Fa.qu{E E':Env}{w:World}{vw bx Q7:List Bx}{G F:ABa}(h:Fa bx vw)(k:HM E w vw bx G E' Q7 F):Fa Q7 vw:=fun b B e=>
 (k.within b B e).elim .inl (h b B)
theorem cH{E:Env}{w:World}{vw bx:List Bx}{G:ABa}(h:C7 E w vw bx G)(hw:Fa bx vw){d:Nat}(hd:1≤d){t:Ty}{x:AV}{v:Value}(hv:VR E w vw x v){y:t.D}{Q7:List Bx}{d':Nat}
  (e:eE d t x bx=some (y,Q7,d')):1≤d'∧d'≤d∧ ∃E' F,HM E w vw bx G E' Q7 F∧Ow w E'.S (d'-1) t [v] y F:=by
 unfold eE at e;split at e
 ·rename_i u z
  simp only[AM9,ARb]at e;obtain⟨z',e1,rfl,rfl,rfl⟩:=e;obtain⟨e2,e3⟩:=IK e1;subst e2;subst e3;refine⟨hd,AQm _,E,[],HM.refl h,?_⟩;obtain⟨hs,hr⟩:=hv;cases u<;>simp_all[Ty.scalar,Ow,Rd]
 ·split at e
  ·simp only[AM7,ARb]at e
   obtain⟨rfl,rfl,rfl⟩:=e;simp only[VR]at hv;subst hv;exact⟨hd,AQm _,E,[],HM.refl h,pt⟩
  simp_all
 ·rename_i r z
  split at e
  ·rename_i q
   simp only[AM9,ARb]at e;obtain⟨z',e1,rfl,rfl,rfl⟩:=e;obtain⟨e2,e3⟩:=IK e1;subst e2;subst e3;refine⟨AQm _,hd,E,[],HM.refl h,?_⟩;simp only[VR]at hv;simp only[Nat.sub_self,Ow];simp_all
  simp_all
 ·rename_i b
  split at e
  case h_2=>cases e
  rename_i q;split at e
  case h_2=>cases e
  rename_i db r z hb;simp only[AM9,ARb]at e;obtain⟨z',e1,rfl,rfl,rfl⟩:=e;obtain⟨e2,e3⟩:=IK e1;subst e2;subst e3;obtain⟨F0,⟨hd1,ho⟩,hB⟩:=h.take hb;have hvv:v=E.IE b:=by
   grind[VR,ZY,C8]
  subst hvv;obtain⟨F1,W,hp,yY⟩:=KG (d:=min d (db+1)-1) (by omega) ho;have UQ:=hB.perm (AWP G hp);obtain⟨hle,Yk⟩:=UQ.share;refine⟨by omega,Nat.min_le_left _ _,_,F1,⟨hle,by simp,fun k B hk=> ?_,Yk⟩,yY⟩;grind
 ·rename_i b off n
  split at e
  case h_2=>cases e
  rename_i q;split at e
  case h_2=>cases e
  rename_i db r z hb;simp only[AM9,ARb]at e;obtain⟨z',e1,rfl,rfl,rfl⟩:=e;obtain⟨e2,e3⟩:=IK e1;subst e2;subst e3;obtain⟨F0,⟨hd1,ho⟩,hB⟩:=h.take hb;simp only[VR,ZY hw hb,C8]at hv;obtain⟨_,_,q',ys,a,len,cap,hg,hn,hh,rfl⟩:=hv;simp only[HF,AM7,AN9]at hg;obtain⟨rfl,hg⟩:=hg;obtain rfl:=ASN hg;simp only[AM7]at hh;rw[hh]at ho;obtain⟨db,rfl⟩:∃m,db=m+1:=⟨db-1,by omega⟩;obtain⟨A1,A2,hp0,ho0⟩:=AFe ho hn;obtain⟨F1,W,hp,yY⟩:=KG (d:=min d (db+1+1)-1) (by omega) ho0;have hB1:C7 E w vw (bx.set b .dead) (A1++G):=by
   refine C7.drop (G':=A2) (hB.perm ?_);grind
  have UQ:=hB1.perm (AWP G hp);obtain⟨hle,Yk⟩:=UQ.share;refine⟨by omega,Nat.min_le_left _ _,_,F1,⟨hle,by simp,fun k B hk=> ?_,Yk⟩,yY⟩;grind
 simp_all
theorem Z7{w:World}{vw:List Bx}:∀{r:Ty} {E:Env} {bx:List Bx} {G:ABa} {d:Nat} {l:List AV} {vs:List Value} {y:r.D} {Q7:List Bx} {d':Nat},C7 E w vw bx G→Fa bx vw→1≤d→
  jh E w vw l vs→cellsIn d r l bx=some (y,Q7,d')→1≤d'∧d'≤d∧ ∃E' F,HM E w vw bx G E' Q7 F∧Ow w E'.S (d'-1) r vs y F
 | .unit,E,bx,G,d,[],[],y,Q7,d',h,hw,hd,_,e=>by
  simp only[cellsIn,AM7,ARb]at e;obtain⟨_,rfl,rfl⟩:=e;exact⟨hd,AQm _,E,[],HM.refl h,by simp only[Ow];simp_all⟩
 | .cons c r,E,bx,G,d,x::l,v::vs,y,Q7,d',h,hw,hd,hv,e=>by
  simp only[cellsIn,ANL,AM9,ARb]at e;obtain⟨⟨y1,kt,d1⟩,e1,⟨y2,bg,d2⟩,e2,rfl,rfl,rfl⟩:=e;dsimp only at e2⊢;obtain⟨a1,a2,E1,F1,k1,o1⟩:=cH h hw hd hv.1 e1;have wS:=k1.le.keep (w:=w) (vw:=vw) h.st;obtain⟨b1,b2,E2,F2,k2,o2⟩:=Z7 (G:=F1++G) k1.boxes (hw.qu k1) a1 (hv.2.imp fun _ _ h=>Gd wS h) e2;obtain⟨A,W,hp,o1'⟩:=KG (d:=d'-1) (by omega) o1;have hB:=k2.boxes.perm (G':=(F2++A)++W++G) (by
   grind)
  obtain⟨hle,Yk⟩:=hB.share;refine⟨b1,ASX b2 a2,_,A++F2,⟨(k1.le.trans k2.le).trans hle,k2.len.trans k1.len,fun b B hb=>(k2.within b B hb).elim .inl (k1.within b B),Yk.perm (AWP _ List.perm_append_comm)⟩,?_⟩;simp only[Ow];refine⟨v,vs,A,F2,rfl,rfl,?_,?_⟩
  ·refine Eh (S:=fun b=>E1.S b∨b∈W) ?_ (fun _ _=>rfl) (fun _ _=>rfl) o1'
   intro c hc;exact hc.elim (fun h=> .inl (k2.le.S c h)) .inr
  ·refine Eh (S:=E2.S) ?_ (fun _ _=>rfl) (fun _ _=>rfl) o2
   simp_all
 | .unit,_,_,_,_,_::_,_,_,_,_,_,_,_,_,e=>by simp[cellsIn]at e
 | .unit,_,_,_,_,[],_::_,_,_,_,_,_,_,hv,_=>hv.elim
 | .cons _ _,_,_,_,_,[],_,_,_,_,_,_,_,_,e=>by simp[cellsIn]at e
 | .cons _ _,_,_,_,_,_::_,[],_,_,_,_,_,_,hv,_=>hv.elim
 | .int _,_,_,_,_,_,_,_,_,_,_,_,_,_,e=>by simp[cellsIn]at e
 | .bool,_,_,_,_,_,_,_,_,_,_,_,_,_,e=>by simp[cellsIn]at e
 | .str,_,_,_,_,_,_,_,_,_,_,_,_,_,e=>by simp[cellsIn]at e
 | .sl _,_,_,_,_,_,_,_,_,_,_,_,_,_,e=>by simp[cellsIn]at e
theorem uc{E:Env}{w:World}{vw:List Bx}{x:AV}{v:Value}(h:VR E w vw x v)(hk:x.known=true):v.oneCell' =true∧v.cells= #[v]:=by
 have aux:∀{v:Value},isSlice v=true→v.oneCell' =true∧v.cells= #[v]:=by intro v h;cases v<;>simp_all[isSlice,Value.oneCell',Value.cells]
 have AcH:∀{v:Value},dP v=true→v.oneCell' =true∧v.cells= #[v]:=by intro v h;cases v<;>simp_all[dP,Value.oneCell',Value.cells]
 cases x with
 |v t y=>
  obtain⟨hs,hr⟩:=h;cases t<;>simp[Ty.scalar]at hs<;>simp only[Rd,AQ_,AUD]at hr<;>subst hr<;>exact⟨rfl,rfl⟩
 |sl s r y=>
  simp only[VR,Rd]at h;obtain⟨a,cap,h,_⟩:=h;simp only[AQ_,AUD]at h;subst h;exact⟨rfl,rfl⟩
 |nil=>simp only[VR]at h;subst h;exact⟨rfl,rfl⟩
 |ref b p=>exact aux h.1
 |win b p off n=>exact aux h.1
 |Ip b j=>rw[h.2];exact⟨rfl,rfl⟩
 |Jk b p i sz j=>exact AcH h.1
 |P8 s r y j=>obtain⟨bb,o,cs,rfl,_⟩:=h;exact⟨rfl,rfl⟩
 |fn f Ki=>rw[h.2];exact⟨rfl,rfl⟩
 |sB f rows=>obtain⟨ps,rfl,_⟩:=h;exact⟨rfl,rfl⟩
 |zg=>simp only[VR]at h;subst h;exact⟨rfl,rfl⟩
 |undef=>simp[AV.known]at hk
theorem ABT{E:Env}{w:World}{vw:List Bx}:∀{l:List AV} {vs:List Value},jh E w vw l vs→l.all AV.known=true→ ∀v∈vs,v.oneCell' =true
 |[],[],_,_=>by simp
 |x::l,v::vs,h,hk=>by
  simp only[AUT,ANB]at hk;intro u hu;rcases AQQ.1 hu with rfl|hu
  ·exact(uc h.1 hk.1).1
  ·exact ABT h.2 hk.2 u hu
theorem qm{E:Env}{w:World}{vw:List Bx}{x:XV}{v:Value}(h:XR E w vw x v)(hk:x.cells.all AV.known=true)(hn:x.cells≠[]):jh E w vw x.cells v.cells.toList∧ ∀u∈v.cells.toList,u.oneCell' =true:=by
 cases x with
 |c x=>
  have h':VR E w vw x v:=h;obtain⟨h1,h2⟩:=uc h' (by grind[XV.cells]);rw[h2];exact⟨⟨h',trivial⟩,by simp_all⟩
 |agg l=>
  obtain⟨vs,rfl,Vu⟩:=h;exact⟨Vu,ABT Vu hk⟩
 |Nb l=>simp[XV.cells]at hn
theorem xV{w:World}{vw:List Bx}{r:Ty}{E:Env}{bx:List Bx}{G:ABa}{d:Nat}{x:XV}{v:Value}{y:r.D}{Q7:List Bx}{d':Nat}(h:C7 E w vw bx G)(hw:Fa bx vw)(hd:1≤d)
  (hv:XR E w vw x v) (e:AEN d r x bx=some (y,Q7,d')):1≤d'∧d'≤d∧ ∃E' F,HM E w vw bx G E' Q7 F∧Ow w E'.S (d'-1) r v.cells.toList y F:=by
 unfold AEN at e;split at e
 ·rename_i l
  obtain⟨vs,rfl,Vu⟩:=hv;exact Z7 h hw hd Vu e
 ·rename_i x
  have Zf:VR E w vw x v:=hv;have hk:x.known=true:=by grind[AV.known,eE]
  rw[(uc Zf hk).2];exact cH h hw hd Zf e
 simp_all
end Go.Fw
end
section
namespace Go.Fw
def Env.bo(E:Env)(n:Nat)(h:Value):Env:={ E with IE:=fun k=>if k=n then h else E.IE k }
def Env.fR(E:Env)(n b:Nat):Env:={ E with ID:=fun k=>if k=n then b else E.ID k }
theorem ik{E E1 E':Env}{w w':World}{vw kt Q7:List Bx}{F:ABa}(k:HM E w vw vw [] E1 kt F)(st:∀c,E.S c→E.T c)(hlen:vw.length≤Q7.length)
  (wD:∀b B,b<vw.length→Q7[b]? =some B→kt[b]? =some B) (AGL:∀b,b<vw.length→E'.ID b=E1.ID b) (oB:∀b,b<vw.length→E'.IE b=E1.IE b) (hT:E'.T=E1.T) (hS:E'.S=E1.S)
  (hw:∀c,c<w.heap.size→c∉F→w'.heap[c]? =w.heap[c]?):Tp E w vw E' w' Q7:=by
 have hB:=k.boxes;obtain⟨Fs,⟨h1,h2⟩,h3⟩:=hB;simp only[AN6]at h3;have yV:∀c,E1.T c→w'.heap[c]? =w.heap[c]?:=fun c hc=>hw c (h3.dr c hc) fun hf=>h3.free c (by simp[hf]) hc
 refine⟨hlen,fun b hb=>by rw[AGL b hb,k.le.ID],fun c hc=>by rw[hT];exact k.le.T c hc,fun c hc=>by rw[hS];exact k.le.S c hc,st,fun c hc=>yV c (k.le.T c hc),fun b d r rows hb e=> ?_⟩;have e1:=wD b _ hb e;rcases k.within b _ e1 with e2|e2
 ·cases e2
 ·refine⟨d,rows,e2,fun p hp q ys hg=>⟨hp,⟨ys,hg,rfl⟩,fun h' hh=> ?_⟩⟩
  have hF:Fs[b]? =some (Fs[b]'(by grind)):=AMt _;obtain⟨hd,ho⟩:=h2 b _ _ e1 hF;rw[oB b hb];rw[←k.le.IE]at hh;refine vP ho (fun c hc=>yV c (h3.st c hc)) (fun c hc=> ?_) hp hg hh;have U2:c∈Fs.flatten:=AT1.2 ⟨_,APy hF,hc⟩;exact hw c (h3.lt c (by simp[U2])) fun hf=>(AOY.1 h3.nodup).2.2 c U2 c hf rfl
structure Grown (w w':World):Prop where
 os:w'.os=w.os
 tape:w'.tape=w.tape
 output:w'.output=w.output
 size:w.heap.size≤w'.heap.size
theorem UU{E E1:Env}{σ:St}{a:Act}{w w':World}{kt:List Bx}{F F':ABa}(h:Rel E σ a w)(k:HM E w σ.bx σ.bx [] E1 kt F){v:Value}{d:Nat}{r:Ty}{rows:List r.D}(hd:1≤d)
  (ho:Ow w' E1.S d (.sl r) [v] rows F') (hF':∀c∈F',c∈F∨w.heap.size≤c) (nd:F'.Nodup) (Hh:∀c∈F',c<w'.heap.size) (hw:∀c,c<w.heap.size→c∉F→w'.heap[c]? =w.heap[c]?) (g:Grown w w'):
  let E':=E1.bo kt.length v
  Rel E' { σ with bx:=kt++[.sl d r rows] } a w'∧SC [] E σ.bx w E' (kt++[.sl d r rows]) w'∧XR E' w' (kt++[.sl d r rows]) (.c (.ref kt.length [])) v:=by
 intro E';have st:=h.bx.st;have hn:=k.len;have keep:Tp E w σ.bx E' w' (kt++[.sl d r rows]):=ik k st (by simp[hn]) (fun b B hb e=>by
   grind) (fun b _=>rfl) (fun b hb=>by grind[Env.bo]) rfl rfl hw
 have wS:Tp E1 w σ.bx E' w' (kt++[.sl d r rows]):=by
  have k':HM E1 w σ.bx σ.bx [] E1 kt F:=⟨Le.refl _,k.len,k.within,k.boxes⟩;exact ik k' k.boxes.st (by simp[hn]) (fun b B hb e=>by
   grind) (fun b _=>rfl) (fun b hb=>by grind[Env.bo]) rfl rfl hw
 obtain⟨Fs,⟨h1,h2⟩,h3⟩:=k.boxes;simp only[AN6]at h3;have yV:∀c,E1.T c→w'.heap[c]? =w.heap[c]?:=fun c hc=>hw c (h3.dr c hc) fun hf=>h3.free c (by simp[hf]) hc
 have hF0:∀c∈Fs.flatten,w'.heap[c]? =w.heap[c]?:=fun c hc=>hw c (h3.lt c (by simp[hc])) fun hf=>(AOY.1 h3.nodup).2.2 c hc c hf rfl
 refine⟨⟨h.ON,h.tm.imp fun _ _ hx=>PW keep hx,?_⟩,?_,?_⟩
 ·refine⟨Fs++[F'],⟨by simp[h1],fun n B G hB hG=> ?_⟩,?_⟩
  ·by_cases wu:n<kt.length
   ·rw[AO2 wu]at hB
    rw[AO2 (by omega)]at hG;have:=h2 n B G hB hG;have hGw:∀c∈G,w'.heap[c]? =w.heap[c]?:=fun c hc=>hF0 c (AT1.2 ⟨G,APy hG,hc⟩)
    cases B with
    |mem cs=>
     obtain⟨rfl,arr,ty,fr,a1,a2,a3⟩:=this;exact⟨rfl,arr,ty,fr,(hGw (E1.ID n) (by simp)).trans a1,a2,a3.imp fun _ _ hv=>Gd wS hv⟩
    |sl d0 r0 SG=>
     refine⟨this.1,?_⟩;have e0:E'.IE n=E1.IE n:=by grind[Env.bo]
     rw[e0];exact Eh (fun _ hc=>hc) (fun c hc=>yV c (h3.st c hc)) hGw this.2
    |dead=>exact this
   ·have hnn:=(AM_.1 hB).1
    simp at hnn;obtain rfl:n=kt.length:=by omega
    rw[AQI (by omega)]at hB hG;simp[h1]at hB hG;subst hB hG;refine⟨hd,?_⟩;grind[Env.bo]
  ·simp only[AUW,AVP,AXa,AN6]
   have nd0:=AOY.1 h3.nodup;refine⟨AOY.2 ⟨nd0.1,nd,fun x hx y hy e=> ?_⟩,fun c hc ht=> ?_,fun c hc=> ?_,h3.st,fun c hc=>AT9 (h3.dr c hc) g.size⟩
   ·grind
   ·rcases AOt.1 hc with hc|hc
    ·exact h3.free c (by simp[hc]) ht
    ·rcases hF' c hc with h|h
     ·exact h3.free c (by simp[h]) ht
     ·have:=h3.dr c ht;omega
   ·rcases AOt.1 hc with hc|hc
    ·exact AT9 (h3.lt c (by simp[hc])) g.size
    simp_all
 ·refine⟨⟨k.le.T,k.le.S,k.le.Tof,k.le.Sof,fun c hc=>yV c (k.le.T c hc),g.os,g.tape,g.output,g.size⟩,by simp[hn],fun b hb=>⟨by show E1.ID b=_;rw[k.le.ID],?_⟩,fun b hb=> ?_,fun n B B' _ hB UQ hnd=> ?_⟩
  ·have:E'.IE b=E1.IE b:=by grind[Env.bo]
   rw[this,k.le.IE]
  ·have hbl:=(AM_.1 hb).1
   rw[AO2 (by omega)];obtain⟨B,hB⟩:∃B,kt[b]? =some B:=⟨_,AMt (by omega)⟩;rcases k.within b B hB with e|e
   all_goals simp_all
  ·have wu:=(AM_.1 hB).1
   rw[AO2 (by omega)]at UQ;rcases k.within n B' UQ with e|e
   ·simp_all
   rw[hB]at e;cases e;refine⟨WM.refl hnd,fun c hc=> ?_⟩;have hF:Fs[n]? =some (Fs[n]'(by omega)):=AMt _;have hR:=h2 n B _ UQ hF;have dj:yR E1 w n B c:=by
    cases B with
    |mem cs=>simp only[yR]at hc⊢;rw[k.le.ID];omega
    |sl d r rows=>simp only[yR]at hc⊢;rw[k.le.IE];omega
    |dead=>exact hc
   rcases fP hR dj with hs|hs
   ·exact yV c (h3.st c hs)
   grind[List.mem_flatten,List.mem_of_getElem?]
 ·have e0:E'.IE kt.length=v:=by simp[E',Env.bo]
  refine⟨?_,?_⟩
  ·have:=YF ho
   simp only[Rd]at this;obtain⟨_,_,e,_⟩:=this;simp only[AQ_,AUD]at e;rw[e];rfl
  ·have:(kt++[Bx.sl d r rows])[kt.length]? =some (.sl d r rows):=by simp
   rw[this];exact⟨by simp[DD],⟨_,rfl⟩,by rw[e0,C8]⟩
theorem rb{E:Env}{σ:St}{a:Act}{w:World}(h:Rel E σ a w){cs:List AV}{arr:Array Value}(ty:TypeId)(hv:jh E w σ.bx cs arr.toList):
  let E':=E.fR σ.bx.length w.heap.size
  let w':=w.alloc (.cells arr ty)
  Rel E' (σ.new (.mem cs)) a w'∧SC [] E σ.bx w E' (σ.new (.mem cs)).bx w'∧XR E' w' (σ.new (.mem cs)).bx (.c (.Ip σ.bx.length 0)) (.pointer (some ⟨w.heap.size,0,none⟩)):=by
 intro E' w';have st:=h.bx.st;have hw:∀c,c<w.heap.size→c∉([]:ABa)→w'.heap[c]? =w.heap[c]?:=fun c hc _=>by
  show(w.heap.push (.cells arr ty))[c]? =_
  grind
 have hB0:=h.bx;have keep:Tp E w σ.bx E' w' (σ.bx++[.mem cs]):=ik (HM.refl hB0) st (by simp) (fun b B hb e=>by
   grind) (fun b hb=>by grind[Env.fR]) (fun b _=>rfl) rfl rfl hw
 obtain⟨Fs,⟨h1,h2⟩,h3⟩:=h.bx;simp only[AN6]at h3;have new:w'.heap[w.heap.size]? =some (.cells arr ty):=by
  show(w.heap.push (.cells arr ty))[w.heap.size]? =_
  simp
 refine⟨⟨h.ON,h.tm.imp fun _ _ hx=>PW keep hx,?_⟩,?_,?_⟩
 ·refine⟨Fs++[[w.heap.size]],⟨by simp[St.new,h1],fun n B G hB hG=> ?_⟩,?_⟩
  ·simp only[St.new]at hB
   by_cases wu:n<σ.bx.length
   ·rw[AO2 wu]at hB
    rw[AO2 (by omega)]at hG;have:=h2 n B G hB hG;have hGw:∀c∈G,w'.heap[c]? =w.heap[c]?:=fun c hc=>hw c (h3.lt c (by simp;grind)) (by simp)
    have eb:E'.ID n=E.ID n:=by grind[Env.fR]
    cases B with
    |mem cs0=>
     obtain⟨rfl,arr0,ty0,fr,a1,a2,a3⟩:=this;refine⟨by rw[eb],arr0,ty0,fr,?_,a2,a3.imp fun _ _ hv=>Gd keep hv⟩;simp_all
    |sl d0 r0 SG=>exact⟨this.1,Eh (fun _ hc=>hc) (fun c hc=>hw c (h3.dr c (st c hc)) (by simp)) hGw this.2⟩
    |dead=>exact this
   ·have hnn:=(AM_.1 hB).1
    simp at hnn;obtain rfl:n=σ.bx.length:=by omega
    rw[AQI (by omega)]at hB hG;simp[h1]at hB hG;subst hB hG;have eb:E'.ID σ.bx.length=w.heap.size:=by simp[E',Env.fR]
    refine⟨by rw[eb],arr,ty,(0,0),by simp_all,fun i _ h=>by omega,hv.imp fun _ _ hv=>Gd keep hv⟩
  ·simp only[AUW,AVP,AXa,AN6]
   refine⟨AOY.2 ⟨h3.nodup,by simp,fun x hx y hy e=> ?_⟩,fun c hc ht=> ?_,fun c hc=> ?_,h3.st,fun c hc=> ?_⟩
   ·subst e
    simp at hy;have:=h3.lt x hx;omega
   ·rcases AOt.1 hc with hc|hc
    ·exact h3.free c hc ht
    ·simp at hc;have:=h3.dr c ht;omega
   ·rcases AOt.1 hc with hc|hc
    ·have:=h3.lt c hc;grind
    grind
   ·have:=h3.dr c hc;grind
 ·refine⟨⟨fun _ h=>h,fun _ h=>h,fun _ h=> .inl h,fun _ h=> .inl h,fun c hc=>hw c (h3.dr c hc) (by simp),rfl,rfl,rfl,by simp[w']⟩,by simp[St.new],fun b hb=>⟨?_,rfl⟩,fun b hb=> ?_,fun n B B' _ hB UQ hnd=> ?_⟩
  ·grind[Env.fR]
  ·grind[List.getElem?_eq_some_iff,St.new,List.getElem?_append_left]
  ·have wu:=(AM_.1 hB).1
   simp only[St.new]at UQ;rw[AO2 wu,hB]at UQ;cases UQ;refine⟨WM.refl hnd,fun c hc=> ?_⟩;have hF:Fs[n]? =some (Fs[n]'(by omega)):=AMt _;rcases fP (h2 n B _ hB hF) hc with hs|hs
   ·exact hw c (h3.dr c (st c hs)) (by simp)
   ·exact hw c (h3.lt c (AT1.2 ⟨_,APy hF,hs⟩)) (by simp)
 ·refine⟨by simp[St.new],?_⟩
  simp[E',Env.fR]
end Go.Fw
end
section
namespace Go.Fw
theorem G5:∀r:Ty,(Ew r).length=r.n
 | .cons c r=>by simp[Ew,Ty.n,G5 r]
 | .unit=>rfl
 | .int _=>rfl
 | .bool=>rfl
 | .str=>rfl
 | .sl _=>rfl
theorem bS{E:Env}{w:World}{vw:List Bx}(t:Ty):VR E w vw (zC t) (zv t):=by
 cases t<;>first
  |exact VR.int _ _
  |exact VR.bool _
  |exact VR.str _
  |rfl
  |trivial
theorem Zr{E:Env}{w:World}{vw:List Bx}:∀r:Ty,jh E w vw (cg r) (Ew r)
 | .cons c r=>⟨bS c,Zr r⟩
 | .unit=>trivial
 | .int k=>⟨bS (.int k),trivial⟩
 | .bool=>⟨bS .bool,trivial⟩
 | .str=>⟨bS .str,trivial⟩
 | .sl r=>⟨bS (.sl r),trivial⟩
theorem fg{w:World}{S:Nat→Prop}{d:Nat}:∀{r:Ty},r.vK=true→Ow w S d r (Ew r) r.z []
 | .cons c r,h=>by
  simp only[Ty.vK,ANB]at h;simp only[Ow,Ew];refine⟨_,_,[],[],rfl,rfl,?_,fg h.2⟩;cases c with
  |sl q=>exact pt
  |int k=>simp[Ow,zv,Ty.z]
  |bool=>simp[Ow,zv,Ty.z]
  |str=>simp[Ow,zv,Ty.z]
  |unit=>simp[Ty.cell]at h
  |cons _ _=>simp[Ty.cell]at h
 | .unit,_=>by simp[Ow,Ew]
 | .int k,_=>by simp[Ow,Ew,zv,Ty.z]
 | .bool,_=>by simp[Ow,Ew,zv,Ty.z]
 | .str,_=>by simp[Ow,Ew,zv,Ty.z]
 | .sl q,_=>pt
theorem ZG{n:Nat}:∀{css:List (List Value)} {ex:List Value} {i j:Nat} {cs:List Value},(∀c∈css,c.length=n)→css[i]? =some cs→j<n→(css.flatten++ex)[i*n+j]? =cs[j]?
 |[],_,_,_,_,_,h,_=>by simp at h
 |c::css,ex,0,j,cs,hl,h,hj=>by
  grind
 |c::css,ex,i+1,j,cs,hl,h,hj=>by
  have hc:=hl c (by simp);have ih:=ZG (css:=css) (ex:=ex) (i:=i) (j:=j) (cs:=cs) (fun c' dj=>hl c' (AYc _ dj)) (by simp_all) hj;simp only[AVP,AOj];rw[AQI (by grind),←ih];congr 1;grind
theorem oO{w:World}{b:Nat}{arr:Array Value}{ty:TypeId}{fr:ADY}(hb:w.heap[b]? =some (.cells arr ty fr)){n:Nat}{css:List (List Value)}{ex:List Value}(ha:arr.toList=css.flatten++ex)
  (hl:∀c∈css,c.length=n) {i:Nat} {cs:List Value} (h:css[i]? =some cs):Bd w b (i*n) cs:=by
 intro j v hj;have hjn:j<n:=by
  grind
 simp only[World.cell?,hb,AUH,ANZ,AQ7];rw[←Array.getElem?_toList,ha,ZG hl h hjn,hj]
theorem fA{w:World}{S:Nat→Prop}{d b cap:Nat}{r:Ty}{rows:List r.D}{arr:Array Value}{ty:TypeId}{fr:ADY}(hb:w.heap[b]? =some (.cells arr ty fr)){css:List (List Value)}{ex:List Value}
  (ha:arr.toList=css.flatten++ex) (hc:css.length=rows.length) (y9:rows.length≤cap) (P9:cap*r.n≤arr.size) (hu:w_ fr (arr.size+mk r)) {Fs:List ABa} (hF:Fs.length=rows.length)
  (da:∀(i:Nat) cs y G,css[i]? =some cs→rows[i]? =some y→Fs[i]? =some G→Ow w S d r cs y G):
  Ow w S (d+1) (.sl r) [.slice (some ⟨b,0,none⟩) rows.length cap] rows (b::Fs.flatten):=by
 have hl:∀c∈css,c.length=r.n:=by
  intro c dj;obtain⟨i,hi,rfl⟩:=AT2 dj;exact YD (da i _ _ _ (AMt hi) (AMt (by omega)) (AMt (by omega)))
 simp only[Ow];refine⟨_,cap,rfl,y9,.inr ⟨b,0,arr,ty,fr,Fs,rfl,hb,by omega,hu,rfl,hF,fun i y G hy hG=> ?_⟩⟩;have hi:i<css.length:=by
  grind
 refine⟨css[i],hl _ (ANa hi),?_,da i _ y G (AMt hi) hy hG⟩;rw[AUY];grind[oO,List.getElem?_eq_getElem]
theorem Xh(n:Nat):w_ (0,0) n:=fun i _ h=>by omega
theorem JA{w:World}{o:Obj}{c:Nat}(h:c<w.heap.size):(w.heap.push o)[c]? =w.heap[c]?:=by
 grind
section
variable{Y:Type} {P:Program} {T:Jw} (hT:E5 P T) {o:Oper} {E:Env} {σ:St} {a:Act} {w:World} {k:K Y} {y:Y}
theorem AFL(h:Rel E σ a w){t:TypeId}{x:Operand}(ho:o.op= .box t x)(hk:(σ.ev x).cells.all AV.known=true)(hn:(σ.ev x).cells≠[])(e:k (.c (.Ip σ.bx.length 0)) (σ.new (.mem (σ.ev x).cells))=some y):
  ME P o E σ a w k y:=by
 obtain⟨h1,h2⟩:=qm (h.ev x) hk hn;obtain⟨r1,r2,r3⟩:=rb h t h1;refine⟨_,_,_,_,_,.inl ?_,r1,r3,r2.any,rfl,e⟩;simp only[execOp,ho,Instr.box,newVar,newRow,Sem.run_bind,run_newObj,Result.andThen_ok,Sem.run_pure];rfl
include hT
theorem row_zero{t:Nat}{r:Ty}(e:T.kN t=some r):∃i z,P.info? t=some i∧i.zero=some z∧z.cells.toList=Ew r∧r.vK=true:=by
 unfold Jw.kN at e;split at e
 ·rename_i ti VI
  obtain⟨i,h1,_,_,h2⟩:=(hT t ti VI).info;simp_all
 simp_all
theorem zB(h:Rel E σ a w){t:TypeId}(ho:o.op= .alloc t){r:Ty}(hr:T.kN t=some r)(e:k (.c (.Ip σ.bx.length 0)) (σ.new (.mem (cg r)))=some y):ME P o E σ a w k y:=by
 obtain⟨i,z,h1,h2,h3,_⟩:=row_zero hT hr;obtain⟨r1,r2,r3⟩:=rb (arr:=z.cells) h t (by rw[h3];exact Zr r);refine⟨_,_,_,_,_,.inl ?_,r1,r3,r2.any,rfl,e⟩;simp only[execOp,ho,Instr.alloc,zeroValue,typeInfo,newVar,newRow,Sem.run_bind,run_program,Result.andThen_ok,h1,h2,run_newObj,Sem.run_pure];rfl
end
end Go.Fw
end
section
namespace Go.Fw
def FT(arr:Array Value):Nat→List Value→Array Value
 |_,[]=>arr
 |o,c::l=>FT (arr.setIfInBounds o c) (o+1) l
theorem Ft:∀(l:List Value) (o:Nat) (arr:Array Value),(FT arr o l).size=arr.size
 |[],_,_=>rfl
 |c::l,o,arr=>by simp[FT,Ft l]
theorem p7(off:Nat):∀(l:List Value) (k:Nat) (arr:Array Value),(l.zipIdx k).foldl (fun cs (q:Value×Nat)=>cs.setIfInBounds (off+q.2) q.1) arr=FT arr (off+k) l
 |[],_,_=>rfl
 |c::l,k,arr=>by
  simp only[List.zipIdx_cons,List.foldl_cons,FT];rw[p7 off l (k+1)];rfl
theorem Xu{E:Env}{w:World}{vw:List Bx}:∀{xs:List AV} {vs:List Value} {cs ez:List AV} {arr:Array Value} {o:Nat},jh E w vw cs arr.toList→jh E w vw xs vs→Yb cs o xs=some ez→
  jh E w vw ez (FT arr o vs).toList∧o+xs.length≤cs.length∨(xs=[]∧ez=cs)
 |[],[],cs,ez,arr,o,h,_,e=>by simp only[Yb,AM7]at e;simp_all
 |x::xs,v::vs,cs,ez,arr,o,h,hx,e=>by
  simp only[Yb]at e;split at e
  case isFalse=>cases e
  rename_i ho;have h1:jh E w vw (cs.set o x) (arr.setIfInBounds o v).toList:=by
   rw[Array.toList_setIfInBounds];exact CY.set h hx.1
  rcases Xu h1 hx.2 e with⟨h2,h3⟩|⟨rfl,rfl⟩
  ·refine .inl ⟨h2,?_⟩
   grind
  ·cases vs with
   |nil=>exact .inl ⟨h1,by grind⟩
   |cons _ _=>exact hx.2.elim
 |[],_::_,_,_,_,_,_,hx,_=>hx.elim
 |_::_,[],_,_,_,_,_,hx,_=>hx.elim
section
variable{Y:Type} {P:Program} {T:Jw} (hT:E5 P T) {o:Oper} {E:Env} {σ:St} {a:Act} {w:World} {k:K Y} {y:Y}
def zI(E:Env)(w:World)(vw:List Bx)(l:List (Nat×XV))(m:List (Nat×Value)):Prop:=CY (fun x v=>x.1=v.1∧XR E w vw x.2 v.2) l m
theorem rq(h:Rel E σ a w)(ps:Array (Nat×Operand)):zI E w σ.bx (ps.toList.map fun q=>(q.1,σ.ev q.2)) (ps.map fun(i,x)=>(i,a.eval x)).toList:=by
 rw[Array.toList_map]
 generalize ps.toList=l
 induction l with
 |nil=>trivial
 |cons q l ih=>exact⟨⟨rfl,h.ev q.2⟩,ih⟩
theorem tX{place:Nat→Option ADY}{i off size:Nat}(hp:place i=some (off,size)){cells:Array Value}{v:Value}{rest:List (Nat×Value)}(h1:v.cells.size=size)(h2:off+v.cells.size≤cells.size):
  Instr.fill place cells ((i,v)::rest)=Instr.fill place (FT cells off v.cells.toList) rest:=by
 have e:v.cells.zipIdx.foldl (fun cs (q:Value×Nat)=>cs.setIfInBounds (off+q.2) q.1) cells=FT cells off v.cells.toList:=by
  rw[←Array.foldl_toList];have:(v.cells.zipIdx).toList=v.cells.toList.zipIdx:=by simp
  rw[this];exact p7 off v.cells.toList 0 cells
 conv=>lhs;unfold Instr.fill
 grind
theorem qj{α β:Type}{f:α→Option β}{g:α→β}:∀{l:List α},(∀x∈l,f x=some (g x))→l.mapM f=some (l.map g)
 |[],_=>rfl
 |x::l,h=>by
  simp only[AYk,h x (by simp),qj (l:=l) (g:=g) (fun y hy=>h y (by simp[hy]))];rfl
include hT
theorem ck{fs:List ADY}{vw:List Bx}:∀{parts:List (Nat×XV)} {vals:List (Nat×Value)} {cs ez:List AV} {arr:Array Value},zI E w vw parts vals→jh E w vw cs arr.toList→gr T fs cs parts=some ez→
  ∃K3:Array Value,Instr.fill (fun i=>(fs[i]?).bind fun q=>((P.info? q.2).map fun i=>(q.1,i.size))) arr vals=some K3∧jh E w vw ez K3.toList
 |[],[],cs,ez,arr,_,h,e=>by
  simp only[gr,AM7]at e;subst e;exact⟨arr,rfl,h⟩
 |(i,x)::ps,(j,v)::vs,cs,ez,arr,hp,h,e=>by
  obtain⟨⟨hij,hx⟩,hp⟩:=hp;simp only at hij hx;subst hij;simp only[gr]at e;split at e
  case h_2=>cases e
  rename_i off u hf;split at e
  case h_2=>cases e
  rename_i ti VI;split at e
  case isFalse=>cases e
  rename_i hc;obtain⟨c1,c2,c3⟩:=hc;simp only[ANL]at e;obtain⟨cs1,e1,e2⟩:=e;have fT:x.cells≠[]:=by grind
  obtain⟨x1,x2⟩:=qm hx c3 fT;rcases Xu h x1 e1 with⟨s1,s2⟩|⟨s1,_⟩
  ·have P9:v.cells.size=ti.size:=by
    have:=x1.len;simp_all
   have hlen:=h.len;obtain⟨K3,f1,f2⟩:=ck hp s1 e2;refine⟨K3,?_,f2⟩;have AaF:(fun i=>(fs[i]?).bind fun q=>((P.info? q.2).map fun i=>(q.1,i.size))) i=some (off,ti.size):=by
    have:=E5.size hT VI;simp_all
   grind[tX]
  simp_all
 |[],_::_,_,_,_,hp,_,_=>hp.elim
 |_::_,[],_,_,_,hp,_,_=>hp.elim
theorem yt(h:Rel E σ a w){t:TypeId}{ps:Array (Nat×Operand)}(ho:o.op= .build t ps){s b:Nat}{fs:List ADY}{rw:Option Ty}(VI:T.get t=some ⟨s,b,.st fs,rw⟩){r:Ty}(hr:T.kN t=some r)
  {cs:List AV} (hb:gr T fs (cg r) (ps.toList.map fun q=>(q.1,σ.ev q.2))=some cs) (e:k (.agg cs) σ=some y):ME P o E σ a w k y:=by
 obtain⟨i,z,h1,h2,h3,_⟩:=row_zero hT hr;obtain⟨fields,hu,hfs,P9⟩:=AIH hT VI;obtain⟨K3,f1,f2⟩:=ck hT (rq h ps) (arr:=z.cells) (by grind[Zr]) hb;refine ME.same h (v:= .agg K3) (x:= .agg cs) ?_ ⟨K3,rfl,f2⟩ e
 have hb:P.built t (ps.map fun(i,x)=>(i,a.eval x)).toList=some K3:=by
  unfold Program.built;simp only[h1,hu,h2];have hm:fields.toList.mapM (fun f=>(P.info? f.type).map fun i=>(f.offset,i.size))=some (fields.toList.map fun f=>(f.offset,((P.info? f.type).map (·.size)).getD 0)):=by
   grind[qj]
  simp only[hm];rw[←f1];congr 1;funext n;subst hfs;simp only[List.getElem?_toArray,ATh];cases hn:fields.toList[n]? with
  |none=>simp
  |some f=>
   obtain⟨i',Dn,_⟩:=P9 f (APy hn);simp[Dn]
 grind[run_build,execOp,Sem.run_bind,Result.andThen_ok,Sem.run_pure]
end
end Go.Fw
end
section
namespace Go.Fw
theorem wrap_small{n:Int}(h0:0≤n)(h1:n≤(DE:Int)):IntKind.i64.wrap n=n:=by
 simp only[DE]at h1;unfold IntKind.wrap;simp only[IntKind.bits,IntKind.signed];grind
theorem HJ{m:Nat}{zl:List Value}:((List.replicate m zl).flatten).length=m*zl.length:=by
 simp_all
theorem Nw{zl:List Value}:∀{m i:Nat},i<m*zl.length→((List.replicate m zl).flatten)[i]? =zl[i%zl.length]?
 |0,i,h=>by omega
 |m+1,i,h=>by
  simp only[List.replicate_succ,AVP];by_cases hi:i<zl.length
  ·rw[AO2 hi,Nat.mod_eq_of_lt hi]
  ·have Dn:zl.length≤i:=by omega
   rw[AQI Dn,Nw (by grind),←Nat.mod_eq_sub_mod Dn]
theorem XI{zero:Array Value}{zl:List Value}(hz:zero.toList=zl)(m:Nat)(h0:zl≠[]):((Array.range (m*zl.length)).map (fun i=>zero[i%zero.size]!)).toList=(List.replicate m zl).flatten:=by
 have hs:zero.size=zl.length:=by grind
 have AIj:0<zl.length:=AYf.2 h0;apply AXF;intro i;by_cases hi:i<m*zl.length
 ·grind[Nw,Nat.mod_lt,Array.toList_map,Array.toList_range,List.getElem?_range,List.getElem?_eq_getElem]
 simp_all
section
variable{Y:Type} {P:Program} {T:Jw} (hT:E5 P T) {o:Oper} {E:Env} {σ:St} {a:Act} {w:World} {k:K Y} {y:Y}
include hT
theorem Xe{e:Nat}{ti:TI}{r:Ty}(he:T.get e=some ti)(hr:ti.row=some r):∃i z,P.info? e=some i∧i.size=ti.size∧i.bytes=ti.bytes∧i.zero=some z∧z.cells.toList=Ew r∧r.vK=true:=by
 obtain⟨i,h1,h2,h3,h4⟩:=(hT e ti he).info;simp_all
theorem ACA(h:Rel E σ a w){t:TypeId}{l c:Operand}(ho:o.op= .makeSlice t l c)(e:uF T t σ (σ.ev l) (σ.ev c) k=some y):ME P o E σ a w k y:=by
 unfold uF at e;split at e
 case h_2=>cases e
 rename_i el n m hd hl hc;split at e
 case h_2=>cases e
 rename_i r hr;split at e
 case isFalse=>cases e
 rename_i VO;split at e
 case isFalse=>cases e
 rename_i hb;obtain⟨b0,b1,b2⟩:=hb;obtain⟨el',ti,hu,VI,hs,hby,hrow⟩:=K4 hT VO;obtain⟨i,z,i1,i2,i3,i4,i5,hg⟩:=Xe hT VI hrow;obtain⟨κ1,e1⟩:=Iw hl (h.ev l);obtain⟨κ2,e2⟩:=Iw hc (h.ev c);have w1:=wrap_small b0 (by omega);have w2:=wrap_small (n:=m) (by omega) b2
 let arr:Array Value:=(Array.range (m.toNat*r.n)).map (fun j=>(if m.toNat*r.n=0 then #[]else z.cells)[j%(if m.toNat*r.n=0 then(#[]:Array Value)else z.cells).size]!)
 have df:arr.toList=(List.replicate n.toNat (Ew r)).flatten++(List.replicate (m.toNat-n.toNat) (Ew r)).flatten:=by
  have hz:=G5 r;have split:(List.replicate n.toNat (Ew r)).flatten++(List.replicate (m.toNat-n.toNat) (Ew r)).flatten=(List.replicate m.toNat (Ew r)).flatten:=by
   grind[List.flatten_append,List.replicate_append_replicate]
  rw[split];by_cases h0:m.toNat*r.n=0
  ·grind[List.length_eq_zero_iff,HJ]
  ·have fT:Ew r≠[]:=by
    grind
   have:=XI i5 m.toNat fT;grind
 let w':=w.alloc (.cells arr el')
 have new:w'.heap[w.heap.size]? =some (.cells arr el'):=by
  show(w.heap.push (.cells arr el'))[w.heap.size]? =_
  simp
 have AMY:arr.size=m.toNat*r.n:=by simp[arr]
 have how:Ow w' E.S (8+1) (.sl r) [.slice (some ⟨w.heap.size,0,none⟩) (List.replicate n.toNat r.z).length m.toNat] (List.replicate n.toNat r.z) (w.heap.size::(List.replicate n.toNat ([]:ABa)).flatten):=by
  refine fA new df (by simp) (by grind) (by omega) (Xh _) (by simp) fun i cs y G h1 h2 h3=> ?_
  simp only[List.getElem?_replicate]at h1 h2 h3;split at h1
  ·rename_i hi
   rw[AMp hi]at h2 h3;grind[fg]
  simp_all
 have hF:(List.replicate n.toNat ([]:ABa)).flatten=[]:=by simp
 rw[hF]at how;simp only[AUf]at how;obtain⟨r1,r2,r3⟩:=UU h (HM.refl h.bx) (w':=w') (d:=9) (by omega) how (by simp) (by simp) (by simp[w']) (fun c hc _=>JA hc) ⟨rfl,rfl,rfl,by simp[w']⟩;refine⟨_,_,_,_,_,.inl ?_,r1,r3,r2.any,rfl,e⟩;have Aaj:(i.bytes:Int)*m≤2^48:=by
  have h1:(i.bytes:Int)≤512:=by omega
  have h2:(i.bytes:Int)*m≤512*m:=Int.mul_le_mul_of_nonneg_right h1 (by omega);grind[DE]
 simp only[execOp,ho,Instr.makeSlice,e1,e2,Sem.run_bind,Bb hu,Result.andThen_ok,asInt,asIntOf,Sem.run_pure,typeInfo,run_program,i1,w1,w2];rw[AM5 (by grind)];by_cases h0:m.toNat*r.n=0
 ·have e3:arr=(Array.range (m.toNat*r.n)).map (fun j=>(#[]:Array Value)[j%(#[]:Array Value).size]!):=by simp_all
  simp only[Sem.run_bind,run_askRoom,Result.andThen_ok,sizeOf,typeInfo,run_program,i1,Sem.run_pure,i2,hs,h0,AT8,newRow,run_newObj];simp only[w',e3,h0];rfl
 ·have e3:arr=(Array.range (m.toNat*r.n)).map (fun j=>z.cells[j%z.cells.size]!):=by grind
  simp only[Sem.run_bind,run_askRoom,Result.andThen_ok,sizeOf,typeInfo,run_program,i1,Sem.run_pure,i2,hs,h0,AQ7,newRow,run_newObj,zeroValue,i4];simp only[w',e3];rfl
end
end Go.Fw
end
section
namespace Go.Fw
theorem jw{w:World}{B S:Nat→Prop}{d:Nat}:∀{r:Ty} {cs:List Value} {x:r.D},r.flat=true→Rd w B r cs x→Ow w S d r cs x []
 | .cons c r,cs,x,h,hr=>by
  simp only[Ty.flat,ANB]at h;simp only[Rd]at hr;obtain⟨v,l,rfl,h1,h2⟩:=hr;simp only[Ow];exact⟨v,l,[],[],rfl,rfl,jw h.1 h1,jw h.2 h2⟩
 | .unit,_,_,_,hr=>by grind[Rd,Ow]
 | .int k,_,_,_,hr=>by grind[Rd,Ow]
 | .bool,_,_,_,hr=>by grind[Rd,Ow]
 | .str,_,_,_,hr=>by grind[Rd,Ow]
 | .sl q,_,_,h,_=>by simp[Ty.flat]at h
theorem MM{P:Program}{w:World}{b o:Nat}{cs:List Value}(h:Bd w b o cs):(loadCells ⟨b,o,none⟩ cs.length).run P w= .ok cs.toArray w:=
 run_loadCells_list (P:=P) w ⟨b,o,none⟩ cs fun j v hv=>by rw[Addr.add_eq];exact h j v hv
theorem YK{l:List Value}:(l.map fun v=>[v]).flatten=l:=by
 induction l with
 |nil=>rfl
 |cons a l ih=>simp[ih]
theorem q7{w:World}{B:Nat→Prop}{r:Ty}{b o:Nat}{ys:List r.D}(h:∀(i:Nat) (y:r.D),ys[i]? =some y→ ∃cs,cs.length=r.n∧Bd w b (o+i*r.n) cs∧Rd w B r cs y):
  ∃css:List (List Value),css.length=ys.length∧(∀c∈css,c.length=r.n)∧Bd w b o css.flatten∧ ∀(i:Nat) cs y,css[i]? =some cs→ys[i]? =some y→Rd w B r cs y:=by
 induction ys generalizing o with
 |nil=>exact⟨[],rfl,by simp,fun _ _ h=>by simp at h,fun i cs y h=>by simp at h⟩
 |cons y ys ih=>
  obtain⟨cs,c1,c2,c3⟩:=h 0 y rfl;obtain⟨css,d1,d2,d3,d4⟩:=ih (o:=o+r.n) (fun i z hz=>by
   obtain⟨cs,e1,e2,e3⟩:=h (i+1) z (by simp_all);grind)
  refine⟨cs::css,by simp[d1],by simp_all,?_,?_⟩
  ·intro j v hj
   simp only[AVP]at hj;by_cases yU:j<cs.length
   ·rw[AO2 yU]at hj
    have:=c2 j v hj;simp_all
   ·rw[AQI (by omega)]at hj
    have:=d3 _ v hj;grind
  grind
theorem Bd.append{w:World}{b o:Nat}{l m:List Value}(h:Bd w b o l)(k:Bd w b (o+l.length) m):Bd w b o (l++m):=by
 intro j v hj;by_cases yU:j<l.length
 ·rw[AO2 yU]at hj
  exact h j v hj
 ·rw[AQI (by omega)]at hj
  have:=k _ v hj;grind
section
variable{Y:Type} {P:Program} {T:Jw} (hT:E5 P T) {o:Oper} {E:Env} {σ:St} {a:Act} {w:World} {k:K Y} {y:Y}
theorem JE(hT:E5 P T){t:Nat}{d:TD}(e:(T.get t).map TI.desc=some d):iC P t d:=by
 simp only[AM9]at e;obtain⟨ti,h1,rfl⟩:=e;exact(hT t ti h1).und
theorem rf{src dst e:Nat}(hs:P.underlying src=some (.slice e))(he:P.underlying e=some (.int .u8))(hd:P.underlying dst=some .string){x:Value}{l:AAG}{B:Nat→Prop}
  (h:Rd w B (.sl (.int .u8)) [x] l):(convert src dst x).run P w= .ok (.string ⟨(l.map fun n:Int=>UInt8.ofNat n.toNat).toArray⟩) w:=by
 simp only[Rd]at h;obtain⟨a,cap,hx,hle,h⟩:=h;simp only[AQ_,AUD]at hx;subst hx;rcases h with h|⟨b,o,rfl,_,h⟩
 ·obtain rfl:=ARJ h
  cases a with
  |none=>exact run_convert_bytes_nil w src e hs he _ _ dst hd
  |some a=>
   rw[run_convert_bytes_string w src dst e _ _ cap hs he hd];rfl
 ·refine run_convert_bytes_arg w src e hs he b o _ cap l rfl (fun i hi=> ?_) dst hd
  obtain⟨cs,c1,c2,c3⟩:=h i _ (AMt hi);subst c3;have:=c2 0 _ rfl;grind
include hT in
theorem ACI(h:Rel E σ a w){src dst:Nat}{x:Operand}(ho:o.op= .convert src dst x)(e:uQ T src dst σ (σ.ev x) k=some y):ME P o E σ a w k y:=by
 have hx:=h.ev x;unfold uQ at e;split at e
 ·rename_i κ0 κ j n hs hd hv
  have h1:=JE hT hs;have h2:=JE hT hd;rw[hv]at hx;have Zf:=cI (E:=E) (w:=w) (vw:=σ.bx) hx;refine ME.same h (v:= .int κ (κ.wrap n)) (x:= .c (.v (.int κ) (κ.wrap n))) ?_ (VR.int (E:=E) (vw:=σ.bx) _ _) e
  simp only[iC]at h1 h2;simp only[execOp,ho,Zf,convert,Sem.run_bind,Bb h1,Bb h2,Result.andThen_ok,Conv.intToInt,Sem.run_pure]
 ·rename_i s hs hd hv
  have h1:=JE hT hs;have h2:=JE hT hd;rw[hv]at hx;have Zf:=YZ (E:=E) (w:=w) (vw:=σ.bx) hx;refine ME.same h (v:= .string ⟨s.toArray⟩) (x:= .c (.v .str s)) ?_ (VR.str (E:=E) (vw:=σ.bx) _) e
  simp only[iC]at h1 h2;simp only[execOp,ho,Zf,convert,Sem.run_bind,Bb h1,Bb h2,Result.andThen_ok,Sem.run_pure]
 ·rename_i el s hs hd hv
  have h1:=JE hT hs;have h2:=JE hT hd;rw[hv]at hx;have Zf:=YZ (E:=E) (w:=w) (vw:=σ.bx) hx;split at e
  case h_2=>cases e
  rename_i VO;have h3:=JE hT VO;split at e
  case isFalse=>cases e
  rename_i Yl;simp only[iC]at h1 h2 h3
  let S0:ByteArray:=⟨s.toArray⟩
  have P9:S0.size=s.length:=by simp[S0,ByteArray.size]
  have mf:=Lib.run_convert_string_bytes (P:=P) w src dst el S0 h1 h2 h3;have y9:s.length≤grownCap w S0.size 0 el:=by rw[P9];exact grownCap_ge _ _ _ _
  have new:=Lib.bytesWorld_at_new w el S0;have df:(Lib.bytesCells w el S0).toList=(s.map fun c=>[Value.int .u8 (c.toNat:Int)]).flatten++List.replicate (grownCap w S0.size 0 el-S0.size) (.int .u8 0):=by
   have:(s.map fun c=>[Value.int .u8 (c.toNat:Int)]).flatten=s.map fun c=>Value.int .u8 (c.toNat:Int):=by
    have:=YK (l:=s.map fun c=>Value.int .u8 (c.toNat:Int));simpa[AVu,Function.comp_def]using this
   rw[this];simp[Lib.bytesCells,S0]
  have AMY:(Lib.bytesCells w el S0).size=grownCap w S0.size 0 el:=by
   rw[←AXQ,df];have:((s.map fun c=>[Value.int .u8 (c.toNat:Int)]).flatten).length=s.length:=by
    have:=YK (l:=s.map fun c=>Value.int .u8 (c.toNat:Int));rw[AVu]at this;have e2:(s.map fun c=>[Value.int .u8 (c.toNat:Int)])=s.map ((fun v=>[v])∘fun c=>Value.int .u8 (c.toNat:Int)):=rfl;rw[e2,this];simp
   rw[AQU,this,AUf];omega
  have how:Ow (Lib.bytesWorld w el S0) E.S (8+1) (.sl (.int .u8)) [.slice (some ⟨w.heap.size,0,none⟩) (s.map fun c=>(c.toNat:Int)).length (grownCap w S0.size 0 el)] (s.map fun c=>(c.toNat:Int))
    (w.heap.size::(List.replicate s.length ([]:ABa)).flatten):=by
   refine fA (css:=s.map fun c=>[Value.int .u8 (c.toNat:Int)]) new df (by simp) (by simpa using y9) (by simp[Ty.n];omega) (fun i hi hh=>by simp only[mk]at hi;omega) (by simp) fun i cs y G q1 q2 q3=> ?_
   simp only[ATh,AM9]at q1 q2;obtain⟨c1,z1,rfl⟩:=q1;obtain⟨c2,z2,rfl⟩:=q2;rw[z1]at z2;cases z2;have:G=[]:=AUj (APy q3);subst this;simp[Ow]
  have hF:(List.replicate s.length ([]:ABa)).flatten=[]:=by simp
  rw[hF]at how;obtain⟨r1,r2,r3⟩:=UU h (HM.refl h.bx) (w':=Lib.bytesWorld w el S0) (d:=9) (by omega) how (by simp) (by simp) (by simp[Lib.bytesWorld_size]) (fun c hc _=>Lib.bytesWorld_at_old w el S0 c hc)
   ⟨by simp[Lib.bytesWorld,World.freeze]<;>rfl,by simp[Lib.bytesWorld,World.freeze]<;>rfl,by simp[Lib.bytesWorld,World.freeze]<;>rfl,by rw[Lib.bytesWorld_size];omega⟩
  refine⟨_,_,_,_,_,.inl ?_,r1,r3,r2.any,rfl,e⟩;simp only[execOp,ho,Zf,Sem.run_bind];have e5:=mf;simp only[S0]at e5;rw[e5];simp only[Result.andThen_ok,Sem.run_pure,AWH];rfl
 ·rename_i el z hs hd hv
  have h1:=JE hT hs;have h2:=JE hT hd;rw[hv]at hx;split at e
  case h_2=>cases e
  rename_i l VO hl;have h3:=JE hT VO;simp only[iC]at h1 h2 h3;obtain⟨Fs,hB,hS⟩:=h.bx;have Xc:=VE (Fa.refl σ.bx) hB hS.st hx hl;have hr:=rf (P:=P) h1 h3 h2 Xc;refine ME.same h (v:= .string ⟨(l.map fun n:Int=>UInt8.ofNat n.toNat).toArray⟩) (x:= .c (.v .str (l.map fun n:Int=>UInt8.ofNat n.toNat))) ?_ (VR.str (E:=E) (vw:=σ.bx) _) e
  simp only[execOp,ho,Sem.run_bind,hr,Result.andThen_ok,Sem.run_pure]
 ·cases e
end
end Go.Fw
end
section
namespace Go.Fw
theorem dC:∀(l:List Value) (o:Nat) (arr:Array Value) (p q:List Value),p.length=o→(∃m:List Value,m.length=l.length∧arr.toList=p++m++q)→(FT arr o l).toList=p++l++q
 |[],o,arr,p,q,hp,⟨m,hm,h⟩=>by
  grind[List.eq_nil_of_length_eq_zero,FT]
 |c::l,o,arr,p,q,hp,⟨m,hm,h⟩=>by
  cases m with
  |nil=>simp_all
  |cons b m=>
   simp only[FT];have:=dC l (o+1) (arr.setIfInBounds o c) (p++[c]) q (by simp[hp]) ⟨m,by simp_all,by
    simp_all⟩
   simp_all
theorem HM.more{E E1 E2:Env}{w:World}{vw bx kt bg:List Bx}{G F1 F2 A W:ABa}(k1:HM E w vw bx G E1 kt F1)(k2:HM E1 w vw kt (F1++G) E2 bg F2)(hp:F1.Perm (A++W)):
  let E3:Env:={ E2 with S:=fun c=>E2.S c∨c∈W,T:=fun c=>E2.T c∨c∈W }
  HM E w vw bx G E3 bg (A++F2):=by
 intro E3;have hB:=k2.boxes.perm (G':=(F2++A)++W++G) (by
  grind)
 obtain⟨hle,Yk⟩:=hB.share;exact⟨(k1.le.trans k2.le).trans hle,k2.len.trans k1.len,fun b B hb=>(k2.within b B hb).elim .inl (k1.within b B),Yk.perm (AWP _ List.perm_append_comm)⟩
theorem Z4{w:World}{vw:List Bx}{r:Ty}(hg:r.vK=true):∀{n i:Nat} {parts:List (Nat×XV)} {vals:List (Nat×Value)} {E:Env} {bx:List Bx} {G:ABa} {d:Nat} {rows:List r.D} {Q7:List Bx} {d':Nat},
  C7 E w vw bx G→Fa bx vw→1≤d→zI E w vw parts vals→Yu r i n parts bx d=some (rows,Q7,d')→1≤d'∧d'≤d∧rows.length=n∧ ∃(E':Env) (Fs:List ABa) (css:List (List Value)),
   HM E w vw bx G E' Q7 Fs.flatten∧css.length=n∧Fs.length=n∧(∀(k:Nat) cs y G,css[k]? =some cs→rows[k]? =some y→Fs[k]? =some G→Ow w E'.S (d'-1) r cs y G)∧
   ∀(pre:List (List Value)) (arr:Array Value),pre.length=i→(∀c∈pre,c.length=r.n)→arr.toList=pre.flatten++(List.replicate n (Ew r)).flatten→
    ∃K3,Instr.fill (fun i=>some (i*r.n,r.n)) arr vals=some K3∧K3.toList=pre.flatten++css.flatten
 |0,i,[],[],E,bx,G,d,rows,Q7,d',h,hw,hd,hp,e=>by
  simp only[Yu,AM7,ARb]at e;obtain⟨rfl,rfl,rfl⟩:=e;refine⟨hd,AQm _,rfl,E,[],[],HM.refl h,rfl,rfl,by simp,fun pre arr _ _ ha=>⟨arr,rfl,by simp_all⟩⟩
 |n+1,i,(j,x)::l,(j',v)::m,E,bx,G,d,rows,Q7,d',h,hw,hd,hp,e=>by
  obtain⟨⟨hj,hx⟩,hp⟩:=hp;simp only at hj hx;subst hj;simp only[Yu]at e;split at e
  case isFalse=>cases e
  rename_i hij;subst hij;simp only[ANL,AM9,ARb]at e;obtain⟨⟨y1,kt,d1⟩,e1,⟨y2,bg,d2⟩,e2,rfl,rfl,rfl⟩:=e;dsimp only at e2⊢;obtain⟨a1,a2,E1,F1,k1,o1⟩:=xV h hw hd hx e1;have wS:=k1.le.keep (w:=w) (vw:=vw) h.st;obtain⟨b1,b2,b3,E2,Fs,css,k2,c1,c2,c3,c4⟩:=Z4 hg (G:=F1++G) k1.boxes (hw.qu k1) a1 (hp.imp fun _ _ q=>⟨q.1,PW wS q.2⟩) e2;obtain⟨A,W,rJ,o1'⟩:=KG (d:=d'-1) (by omega) o1;refine⟨b1,ASX b2 a2,by simp[b3],_,A::Fs,v.cells.toList::css,HM.more k1 k2 rJ,by simp[c1],by simp[c2],fun k cs y G' q1 q2 q3=> ?_,fun pre arr wo hpn ha=> ?_⟩
  ·cases k with
   |zero=>
    simp at q1 q2 q3;subst q1 q2 q3;refine Eh (S:=fun b=>E1.S b∨b∈W) ?_ (fun _ _=>rfl) (fun _ _=>rfl) o1'
    intro c hc;exact hc.elim (fun h=> .inl (k2.le.S c h)) .inr
   |succ k=>
    refine Eh (S:=E2.S) ?_ (fun _ _=>rfl) (fun _ _=>rfl) (c3 k cs y G' (by simp_all) (by simp_all) (by simp_all))
    simp_all
  ·have hlen:v.cells.toList.length=r.n:=YD o1
   have hpf:pre.flatten.length=i*r.n:=by
    clear ha c4
    subst wo;clear e1 e2
    induction pre with
    |nil=>simp
    |cons c pre ih=>grind
   have VW:(FT arr (i*r.n) v.cells.toList).toList=pre.flatten++v.cells.toList++(List.replicate n (Ew r)).flatten:=
    dC _ _ _ _ _ hpf ⟨Ew r,by rw[G5,hlen],by grind⟩
   obtain⟨K3,f1,f2⟩:=c4 (pre++[v.cells.toList]) (FT arr (i*r.n) v.cells.toList) (by simp[wo]) (by
    grind) (by simp_all)
   refine⟨K3,?_,by simp_all⟩;rw[tX (i:=i) (off:=i*r.n) (size:=r.n) rfl (by omega) ?_]
   all_goals grind[List.length_append,HJ,G5,Nat.succ_mul]
 |n+1,i,[],[],E,bx,G,d,rows,Q7,d',h,hw,hd,hp,e=>by
  simp only[Yu,AM9,ARb]at e;obtain⟨⟨y2,bg,d2⟩,e2,rfl,rfl,rfl⟩:=e;obtain⟨b1,b2,b3,E2,Fs,css,k2,c1,c2,c3,c4⟩:=Z4 hg (G:=G) h hw hd (parts:=[]) (vals:=[]) trivial e2;refine⟨b1,b2,by simp[b3],E2,[]::Fs,Ew r::css,by simp_all,by simp[c1],by simp[c2],fun k cs y G' q1 q2 q3=> ?_,fun pre arr wo hpn ha=> ?_⟩
  ·grind[fg]
  ·obtain⟨K3,f1,f2⟩:=c4 (pre++[Ew r]) arr (by simp[wo]) (by
    grind[G5]) (by grind)
   simp_all
 |0,_,_::_,_,_,_,_,_,_,_,_,_,_,_,_,e=>by simp[Yu]at e
 |0,_,[],_::_,_,_,_,_,_,_,_,_,_,_,hp,_=>hp.elim
 |_+1,_,[],_::_,_,_,_,_,_,_,_,_,_,_,hp,_=>hp.elim
 |_+1,_,_::_,[],_,_,_,_,_,_,_,_,_,_,hp,_=>hp.elim
section
variable{Y:Type} {P:Program} {T:Jw} (hT:E5 P T) {o:Oper} {E:Env} {σ:St} {a:Act} {w:World} {k:K Y} {y:Y}
include hT
theorem o5(h:Rel E σ a w){t n:Nat}{ps:Array (Nat×Operand)}(ho:o.op= .buildSlice t n ps)(e:Rg T t n (ps.toList.map fun q=>(q.1,σ.ev q.2)) σ k=some y):ME P o E σ a w k y:=by
 unfold Rg at e;split at e
 case h_2=>cases e
 rename_i el hd;split at e
 case h_2=>cases e
 rename_i r hr;split at e
 case isFalse=>cases e
 rename_i hc;simp only[ANB,ANo]at hc;obtain⟨⟨VO,hn⟩,hrn⟩:=hc;simp only[ANL]at e;obtain⟨⟨rows,Q7,d'⟩,e1,e⟩:=e;dsimp only at e;obtain⟨el',ti,hu,VI,hs,hby,hrow⟩:=K4 hT VO;obtain⟨i,z,i1,i2,i3,i4,i5,hg⟩:=Xe hT VI hrow;have APl:=rq h ps;obtain⟨b1,b2,b3,E',Fs,css,k2,c1,c2,c3,c4⟩:=Z4 hg h.bx (Fa.refl _) (by omega) APl e1
 let zero:Array Value:=if n*r.n=0 then #[]else z.cells
 have hz:((Array.range (n*r.n)).map (fun j=>zero[j%zero.size]!)).toList=(List.replicate n (Ew r)).flatten:=by
  by_cases h0:n*r.n=0
  ·have h1:(List.replicate n (Ew r)).flatten=[]:=by
    rw[←AYN,HJ,G5,h0]
   rw[h1];simp[h0]
  ·have fT:Ew r≠[]:=by
    intro he;have:=G5 r;rw[he]at this;simp at this;rw[←this]at h0;simp at h0
   have:=XI i5 n fT;rw[G5]at this;simp only[zero,AM5 h0];exact this
 obtain⟨K3,f1,f2⟩:=c4 [] _ rfl (by simp) (by rw[hz];simp);simp only[AXa,AT6]at f2
 let w':=w.alloc (.cells K3 el')
 have new:w'.heap[w.heap.size]? =some (.cells K3 el'):=by
  show(w.heap.push (.cells K3 el'))[w.heap.size]? =_
  simp
 obtain⟨d,rfl⟩:∃m,d' =m+1:=⟨d'-1,by omega⟩;have hl:∀c∈css,c.length=r.n:=by
  intro c hc;obtain⟨j,hj,rfl⟩:=AT2 hc;exact YD (c3 j _ _ _ (AMt hj) (AMt (by omega)) (AMt (by omega)))
 have yZ:css.flatten.length=n*r.n:=by
  rw[←c1];clear f2 c3 c4 c1
  induction css with
  |nil=>simp
  |cons c l ih=>simp[hl c (by simp),ih (fun c hc=>hl c (by simp[hc])),Nat.succ_mul];omega
 have AMY:K3.size=n*r.n:=by rw[←AXQ,f2,yZ]
 obtain⟨Fs0,hB1,Yk⟩:=k2.boxes;simp only[AN6]at Yk;have how:Ow w' E'.S (d+1) (.sl r) [.slice (some ⟨w.heap.size,0,none⟩) rows.length n] rows (w.heap.size::Fs.flatten):=by
  refine fA (css:=css) (ex:=[]) new (by simpa using f2) (by omega) (by omega) (by omega) (Xh _) (by omega) fun k cs y G q1 q2 q3=> ?_
  have U2:∀c∈G,c∈Fs.flatten:=fun c hc=>AT1.2 ⟨G,APy q3,hc⟩
  exact Eh (fun _ h=>h) (fun c hc=>JA (Yk.dr c (Yk.st c hc))) (fun c hc=>JA (Yk.lt c (by simp only[AOt];exact .inr (U2 c hc)))) (by simpa using c3 k cs y G q1 q2 q3)
 rw[b3]at how;obtain⟨r1,r2,r3⟩:=UU h k2 (w':=w') (d:=d+1) (by omega) how (by
   intro c hc;rcases AQQ.1 hc with rfl|hc
   ·exact .inr (AQm _)
   ·exact .inl hc) (by
   refine AYF.2 ⟨fun hc=> ?_,(AOY.1 Yk.nodup).2.1⟩;have:=Yk.lt w.heap.size (by simp only[AOt];exact .inr hc);omega) (by
   intro c hc;rcases AQQ.1 hc with rfl|hc
   ·simp[w']
   ·have:=Yk.lt c (by simp only[AOt];exact .inr hc)
    simp[w'];omega) (fun c hc _=>JA hc) ⟨rfl,rfl,rfl,by simp[w']⟩
 refine⟨_,_,_,_,_,.inl ?_,r1,r3,r2.any,rfl,e⟩;have Yl: ¬(n*r.n>2^24):=by
  have:n*r.n≤1024*1024:=Nat.mul_le_mul hn hrn;omega
 simp only[execOp,ho,Instr.buildSlice,Sem.run_bind,Bb hu,Result.andThen_ok,sizeOf,typeInfo,run_program,i1,Sem.run_pure,i2,hs,Yl,AQ7];by_cases h0:n*r.n=0
 ·have hz0:zero= #[]:=by simp only[zero,AMp h0]
  rw[hz0]at f1;simp only[h0,AT8,Sem.run_bind,Sem.run_pure,Result.andThen_ok];rw[h0]at f1;simp only[f1,newRow,Sem.run_bind,run_newObj,Result.andThen_ok,Sem.run_pure];rfl
 ·have hz0:zero=z.cells:=by simp only[zero,AM5 h0]
  rw[hz0]at f1;simp only[h0,AQ7,Sem.run_bind,zeroValue,typeInfo,run_program,Result.andThen_ok,i1,Sem.run_pure,i4];simp only[f1,newRow,Sem.run_bind,run_newObj,Result.andThen_ok,Sem.run_pure];rfl
end
end Go.Fw
end
section
namespace Go.Fw
theorem cQ(w:World)(b o:Nat)(v:Value):(w.setCell ⟨b,o,none⟩ v).heap=w.heap.modify b fun
 | .cells c elem frozen=> .cells (c.setIfInBounds o v) elem frozen
 |o=>o:=rfl
theorem Fy:∀(vs:List Value) (o:Nat) (w:World) (b:Nat) (arr:Array Value) (ty:TypeId) (fr:ADY),w.heap[b]? =some (.cells arr ty fr)→
  (w.setCells b o vs).heap[b]? =some (.cells (FT arr o vs) ty fr)
 |[],_,_,_,_,_,_,h=>h
 |v::l,o,w,b,arr,ty,fr,h=>by
  simp only[World.setCells,FT];refine Fy l (o+1) _ b _ ty fr ?_
  rw[cQ,Array.getElem?_modify,AMp rfl,h];rfl
theorem Dd:∀(vs:List Value) (o:Nat) (w:World) (b:Nat),(w.setCells b o vs).heap.size=w.heap.size
 |[],_,_,_=>rfl
 |v::l,o,w,b=>by
  simp only[World.setCells];rw[Dd l,cQ,Array.size_modify]
theorem DP:∀(vs:List Value) (o:Nat) (w:World) (b c:Nat),c≠b→(w.setCells b o vs).heap[c]? =w.heap[c]?
 |[],_,_,_,_,_=>rfl
 |v::l,o,w,b,c,h=>by
  simp only[World.setCells];rw[DP l _ _ _ _ h,cQ,Array.getElem?_modify,AM5 (fun e=>h e.symm)]
theorem B7:∀(vs:List Value) (o:Nat) (w:World) (b:Nat),Grown w (w.setCells b o vs)
 |[],_,_,_=>⟨rfl,rfl,rfl,AQm _⟩
 |v::l,o,w,b=>by
  have:=B7 l (o+1) (w.setCell ⟨b,o,none⟩ v) b;refine⟨this.os,this.tape,this.output,?_⟩;rw[Dd];omega
theorem XX{arr:Array Value}:∀{l:List Value} {o j:Nat},o+l.length≤arr.size→(FT arr o l)[j]? =if o≤j∧j<o+l.length then l[j-o]? else arr[j]?:=by
 intro l
 induction l generalizing arr with
 |nil=>intro o j _;rw[AM5 (fun hh=>by grind)];rfl
 |cons c l ih=>
  intro o j h;simp only[AOw]at h;simp only[FT];grind
theorem LI{w:World}{b o:Nat}{arr:Array Value}{ty:TypeId}{fr:ADY}(h:w.heap[b]? =some (.cells arr ty fr)):w.cell? ⟨b,o,none⟩=arr[o]?:=by
 simp[World.cell?,h]
theorem PO{w:World}{b o:Nat}{vs:List Value}{arr:Array Value}{ty:TypeId}{fr:ADY}(h:w.heap[b]? =some (.cells arr ty fr))(hs:o+vs.length≤arr.size):Bd (w.setCells b o vs) b o vs:=by
 intro j v hj;have hl:=(AM_.1 hj).1;rw[LI (Fy vs o w b arr ty fr h),XX hs,AMp (by omega),show o+j-o=j by omega,hj]
theorem U8{w:World}{b b' o o':Nat}{vs cs:List Value}{arr:Array Value}{ty:TypeId}{fr:ADY}(hc:Bd w b' o' cs)(h:w.heap[b]? =some (.cells arr ty fr))(hs:o+vs.length≤arr.size)
  (ha:b'≠b∨o'+cs.length≤o∨o+vs.length≤o'):Bd (w.setCells b o vs) b' o' cs:=by
 intro j v hj;have hl:=(AM_.1 hj).1;by_cases hb:b' =b
 ·subst hb
  have:=hc j v hj;rw[LI h]at this;rw[LI (Fy vs o w b' arr ty fr h),XX hs,AM5 (by omega),this]
 ·rw[World.cell?_of_block (a:=⟨b',o'+j,none⟩) (DP vs o w b b' hb)]
  exact hc j v hj
theorem VA{w:World}{b o n k:Nat}{arr:Array Value}{ty:TypeId}{fr:ADY}(h:w.heap[b]? =some (.cells arr ty fr))(hs:o+n≤arr.size)(hu:w_ fr (arr.size+k)):w.there b o n:=by
 intro j hj;refine⟨?_,?_⟩
 ·rw[LI h]
  grind
 ·have:=hu (o+j) (by omega)
  grind[World.frozen?]
theorem k_{w:World}{S:Nat→Prop}:∀{r:Ty} {d:Nat} {cs:List Value} {y:r.D} {F:ABa},Ow w S d r cs y F→ ∀v∈cs,v.oneCell' =true
 | .int _,_,_,_,_,h,v,hv=>by simp only[Ow]at h;rw[h.1]at hv;simp at hv;subst hv;rfl
 | .bool,_,_,_,_,h,v,hv=>by simp only[Ow]at h;rw[h.1]at hv;simp at hv;subst hv;rfl
 | .str,_,_,_,_,h,v,hv=>by simp only[Ow]at h;rw[h.1]at hv;simp at hv;subst hv;rfl
 | .unit,_,_,_,_,h,v,hv=>by grind[Ow]
 | .sl _,0,_,_,_,h,v,hv=>by
  simp only[Ow,Rd]at h;obtain⟨⟨_,_,rfl,_⟩,_⟩:=h;simp at hv;subst hv;rfl
 | .sl _,_+1,_,_,_,h,v,hv=>by
  simp only[Ow]at h;obtain⟨_,_,rfl,_⟩:=h;simp at hv;subst hv;rfl
 | .cons _ _,_,_,_,_,h,v,hv=>by
  simp only[Ow]at h;obtain⟨u,l,F1,F2,rfl,_,h1,h2⟩:=h;rcases AQQ.1 hv with rfl|hv
  ·exact k_ h1 _ (by simp)
  ·exact k_ h2 _ hv
section
variable{P:Program} {w:World}
structure lK (P:Program) (w:World) (size n:Nat) (x:Value) (news:List Value):Prop where
 len:∀w',(Builtin.lenOf x).run P w' = .ok n w'
 cells:∀w',w'.heap=w.heap→(Builtin.firstCells size n x).run P w' = .ok news.toArray w'
theorem gP{ts:Array TypeId}{t u ty e:TypeId}(yK:ts[0]? =some t)(xw:ts[1]? =some u){i:TypeInfo}{size:Nat}(ht:P.underlying t=some (.slice e))(hu:(∃e,P.underlying u=some (.slice e))∨P.underlying u=some .string)(hi:P.info? e=some i)(P9:i.size=size)
  {b o V8 jv n:Nat} {x:Value} {news:List Value} (hn:lK P w size n x news) (UA:V8+n≤jv) (px:w.there b (o+V8*size) news.length) (h1:∀v∈news,v.oneCell' =true):
  (Builtin.append_ ts ty #[.slice (some ⟨b,o,none⟩) V8 jv,x]).run P w= .ok (.slice (some ⟨b,o,none⟩) (V8+n) jv) (w.setCells b (o+V8*size) news):=by
 subst P9;have pE:=run_storeCells_cells (P:=P) b (o+V8*i.size) news 0 w (fun j hj=>by simpa using(px j hj).1) (fun j hj=>by simpa using(px j hj).2) h1;simp only[AVe]at pE;have hl:=hn.len w;have hf:=hn.cells w rfl;rcases hu with⟨e',hu⟩|hu
 ·simp[Builtin.append_,yK,xw,run_underlying ht,run_underlying hu,sizeOf,typeInfo,hi,hl,UA,hf,Addr.add_eq,pE]
 ·simp[Builtin.append_,yK,xw,run_underlying ht,run_underlying hu,sizeOf,typeInfo,hi,hl,UA,hf,Addr.add_eq,pE]
theorem o_{ts:Array TypeId}{t u ty e:TypeId}(yK:ts[0]? =some t)(xw:ts[1]? =some u){i:TypeInfo}{size:Nat}(ht:P.underlying t=some (.slice e))(hu:(∃e,P.underlying u=some (.slice e))∨P.underlying u=some .string)(hi:P.info? e=some i)(P9:i.size=size)
  {a:Option Addr} {x:Value} (hn:lK P w size 0 x []):
  (Builtin.append_ ts ty #[.slice a 0 0,x]).run P w= .ok (.slice a 0 0) w:=by
 subst P9;have hl:=hn.len w;have hf:=hn.cells w rfl;cases a with
 |none=>
  rcases hu with⟨e',hu⟩|hu
  ·simp[Builtin.append_,yK,xw,run_underlying ht,run_underlying hu,sizeOf,typeInfo,hi,hl,hf]
  ·simp[Builtin.append_,yK,xw,run_underlying ht,run_underlying hu,sizeOf,typeInfo,hi,hl,hf]
 |some a=>
  have pE:(storeCells (a.add (0*i.size)) [] 0).run P w= .ok () w:=rfl;rcases hu with⟨e',hu⟩|hu
  ·simp[Builtin.append_,yK,xw,run_underlying ht,run_underlying hu,sizeOf,typeInfo,hi,hl,hf,storeCells]
  ·simp[Builtin.append_,yK,xw,run_underlying ht,run_underlying hu,sizeOf,typeInfo,hi,hl,hf,storeCells]
theorem dA{ts:Array TypeId}{t u ty e:TypeId}(yK:ts[0]? =some t)(xw:ts[1]? =some u){i:TypeInfo}{z:Value}{size:Nat}(ht:P.underlying t=some (.slice e))(hu:(∃e,P.underlying u=some (.slice e))∨P.underlying u=some .string)(hi:P.info? e=some i)(hz:i.zero=some z)(P9:i.size=size)
  {a:Option Addr} {V8 jv n:Nat} {x:Value} {AU0 news:List Value} (ho:∀w',w'.heap=w.heap→(Builtin.firstCells size V8 (.slice a V8 jv)).run P w' = .ok AU0.toArray w')
  (hn:lK P w size n x news) (AXp:jv<V8+n) (h63:V8+n≤DE) (hby:i.bytes≤512):
  (Builtin.append_ ts ty #[.slice a V8 jv,x]).run P w= .ok (.slice (some ⟨w.heap.size,0,none⟩) (V8+n) (grownCap w (V8+n) jv e))
   (w.drew.alloc (.cells (AU0.toArray++news.toArray++Builtin.zeroCells z.cells (grownCap w (V8+n) jv e-(V8+n))) e)):=by
 subst P9;have hl:=hn.len w;have hf:=hn.cells w.drew rfl;have hfo:=ho w.drew rfl;have hno: ¬(V8+n≤jv):=by omega
 have hb:(V8+n)*i.bytes≤140737488355328:=by
  have:(V8+n)*i.bytes≤DE*512:=Nat.mul_le_mul h63 hby;grind[DE]
 have h48:=growslice_fits AXp hb;have AVn: ¬(281474976710656<Builtin.nextslicecap (V8+n) jv*i.bytes):=by omega
 have AWK: ¬(9223372036854775807<((V8:Int)+(n:Int))):=by grind[DE]
 rcases hu with⟨e',hu⟩|hu
 ·simp[Builtin.append_,yK,xw,run_underlying ht,run_underlying hu,sizeOf,typeInfo,zeroValue,hi,hz,hl,hno,AWK,AVn,Question.forced,hf,hfo,newRow,grownCap]
  grind
 ·simp[Builtin.append_,yK,xw,run_underlying ht,run_underlying hu,sizeOf,typeInfo,zeroValue,hi,hz,hl,hno,AWK,AVn,Question.forced,hf,hfo,newRow,grownCap]
  grind
end
end Go.Fw
end
section
namespace Go.Fw
def FZ(w:World)(S:Nat→Prop)(d:Nat)(r:Ty)(css:List (List Value))(rows:List r.D)(Fs:List ABa):Prop:=
 css.length=rows.length∧Fs.length=rows.length∧(∀c∈css,c.length=r.n)∧ ∀(i:Nat) cs y G,css[i]? =some cs→rows[i]? =some y→Fs[i]? =some G→Ow w S d r cs y G
theorem FZ.mono{w w':World}{S S':Nat→Prop}{d:Nat}{r:Ty}{css:List (List Value)}{rows:List r.D}{Fs:List ABa}(h:FZ w S d r css rows Fs)(hS:∀c,S c→S' c)(hw:∀c,S c→w'.heap[c]? =w.heap[c]?)
  (hF:∀c∈Fs.flatten,w'.heap[c]? =w.heap[c]?):FZ w' S' d r css rows Fs:=
 ⟨h.1,h.2.1,h.2.2.1,fun i cs y G a b c=>Eh hS hw (fun x hx=>hF x (AT1.2 ⟨G,APy c,hx⟩)) (h.2.2.2 i cs y G a b c)⟩
theorem FZ.append{w:World}{S:Nat→Prop}{d:Nat}{r:Ty}{css AWs:List (List Value)}{rows C2:List r.D}{Fs Fs':List ABa}(h:FZ w S d r css rows Fs)(k:FZ w S d r AWs C2 Fs'):
  FZ w S d r (css++AWs) (rows++C2) (Fs++Fs'):=by
 refine⟨by simp[h.1,k.1],by simp[h.2.1,k.2.1],fun c hc=>(AOt.1 hc).elim (h.2.2.1 c) (k.2.2.1 c),fun i cs y G a b c=> ?_⟩;by_cases hi:i<rows.length
 ·rw[AO2 (by rw[h.1];omega)]at a
  rw[AO2 hi]at b;rw[AO2 (by rw[h.2.1];omega)]at c;exact h.2.2.2 i cs y G a b c
 ·rw[AQI (by rw[h.1];omega)]at a
  rw[AQI (by omega)]at b;rw[AQI (by rw[h.2.1];omega)]at c;rw[h.1]at a;rw[h.2.1]at c;exact k.2.2.2 _ cs y G a b c
theorem FZ.weaken{w:World}{S:Nat→Prop}{d d':Nat}{r:Ty}{css:List (List Value)}{rows:List r.D}{Fs:List ABa}(h:FZ w S d r css rows Fs)(hd:d'≤d):
  ∃(Gs:List ABa) (W:ABa),Fs.flatten.Perm (Gs.flatten++W)∧FZ w (fun c=>S c∨c∈W) d' r css rows Gs:=by
 obtain⟨Gs,Ws,h1,h2,h3,h4⟩:=pW (R:=fun i G F W=> ∀cs y,css[i]? =some cs→rows[i]? =some y→Ow w (fun c=>S c∨c∈W) d' r cs y F) Fs 0 (fun i G hG=>by
  rw[AUY];have hi:=(AM_.1 hG).1;have h1:=h.1;have h2:=h.2.1;obtain⟨F,W,hp,ho⟩:=KG hd (h.2.2.2 i _ _ G (AMt (by omega)) (AMt (by omega)) hG);grind)
 refine⟨Gs,Ws.flatten,h3,h.1,h1.trans h.2.1,h.2.2.1,fun i cs y G a b c=> ?_⟩;have hi:=(AM_.1 c).1;have hw:Ws[i]? =some (Ws[i]'(by omega)):=AMt _;have hf:Fs[i]? =some (Fs[i]'(by omega)):=AMt _;have:=h4 i _ _ _ hf c hw cs y (by simp_all) (by simp_all);exact Eh (fun x hx=>hx.imp id fun hx=>AT1.2 ⟨_,APy hw,hx⟩) (fun _ _=>rfl) (fun _ _=>rfl) this
theorem H4{n:Nat}:∀{css:List (List Value)},(∀c∈css,c.length=n)→css.flatten.length=css.length*n
 |[],_=>by simp
 |c::l,h=>by simp[h c (by simp),H4 (css:=l) (fun c hc=>h c (by simp[hc])),Nat.succ_mul];omega
theorem FZ.one{w:World}{S:Nat→Prop}{d:Nat}{r:Ty}{css:List (List Value)}{rows:List r.D}{Fs:List ABa}(h:FZ w S d r css rows Fs):∀v∈css.flatten,v.oneCell' =true:=by
 intro v hv;obtain⟨c,hc,hv⟩:=AT1.1 hv;obtain⟨i,hi,rfl⟩:=AT2 hc;have h1:=h.1;have h2:=h.2.1;exact k_ (h.2.2.2 i _ _ _ (AMt hi) (AMt (by omega)) (AMt (by omega))) v hv
theorem FZ.flat{w:World}{B S:Nat→Prop}{d:Nat}{r:Ty}(hf:r.flat=true){css:List (List Value)}{rows:List r.D}(h1:css.length=rows.length)(h2:∀c∈css,c.length=r.n)
  (h3:∀(i:Nat) cs y,css[i]? =some cs→rows[i]? =some y→Rd w B r cs y):FZ w S d r css rows (List.replicate rows.length []):=by
 refine⟨h1,by simp,h2,fun i cs y G a b c=> ?_⟩;grind[List.mem_of_getElem?,jw]
theorem Bd.heap{w w':World}{b o:Nat}{cs:List Value}(h:Bd w b o cs)(e:w'.heap=w.heap):Bd w' b o cs:=h.of_block (by rw[e])
theorem RD{P:Program}{w:World}{a:Option Addr}{n cap size:Nat}{css:List (List Value)}(hl:css.length=n)(hc:∀c∈css,c.length=size)
  (h:n=0∨ ∃b o,a=some ⟨b,o,none⟩∧Bd w b o css.flatten):lK P w size n (.slice a n cap) css.flatten:=by
 refine⟨fun w' =>rfl,fun w' e=> ?_⟩;have hlen:css.flatten.length=n*size:=by rw[H4 hc,hl]
 rcases h with rfl|⟨b,o,rfl,h⟩
 ·have:css=[]:=ARJ hl
  subst this;cases a with
  |none=>rfl
  |some a=>
   simp only[Builtin.firstCells,Nat.zero_mul,AXa];rfl
 ·simp only[Builtin.firstCells]
  rw[←hlen];exact MM (h.heap e)
theorem AD4{P:Program}{w:World}{s:ABp}:lK P w 1 s.length (.string ⟨s.toArray⟩) (s.map fun c=>[Value.int .u8 (c.toNat:Int)]).flatten:=by
 refine⟨fun w' =>rfl,fun w' _=> ?_⟩;have P9:(⟨s.toArray⟩:ByteArray).size=s.length:=by rfl
 have e1:(⟨s.toArray⟩:ByteArray).extract 0 s.length=⟨s.toArray⟩:=by
  rw[←P9];apply ByteArray.ext;simp
 simp only[Builtin.firstCells,e1,Sem.run_pure];have:(s.map fun c=>[Value.int .u8 (c.toNat:Int)]).flatten=s.map fun c=>Value.int .u8 (c.toNat:Int):=by
  have:=YK (l:=s.map fun c=>Value.int .u8 (c.toNat:Int));grind[List.map_map,Function.comp_def]
 simp_all
theorem pO{w:World}{S:Nat→Prop}{d:Nat}{r:Ty}{v:Value}{rows:List r.D}{F:ABa}(h:Ow w S (d+1) (.sl r) [v] rows F):
  ∃a cap css Fs R,v= .slice a rows.length cap∧rows.length≤cap∧FZ w S d r css rows Fs∧F.Perm (Fs.flatten++R)∧
   ((cap=0∧F=[])∨ ∃b o arr ty fr,a=some ⟨b,o,none⟩∧w.heap[b]? =some (.cells arr ty fr)∧o+cap*r.n≤arr.size∧w_ fr (arr.size+mk r)∧F=b::Fs.flatten∧Bd w b o css.flatten):=by
 simp only[Ow]at h;obtain⟨a,cap,e,hle,h⟩:=h;simp only[AQ_,AUD]at e;subst e;rcases h with⟨h,rfl⟩|⟨b,o,arr,ty,fr,Fs,rfl,hb,P9,hu,rfl,hFl,hr⟩
 ·have:rows=[]:=ARJ (by omega)
  subst this;exact⟨a,cap,[],[],[],rfl,hle,⟨rfl,rfl,by simp,fun i cs y G h=>by simp at h⟩,by simp,.inl ⟨h,rfl⟩⟩
 ·
  have key:∀(n o:Nat) (ys:List r.D) (Fs:List ABa),ys.length=n→Fs.length=n→(∀(i:Nat) (y:r.D) (G:ABa),ys[i]? =some y→Fs[i]? =some G→ ∃cs,cs.length=r.n∧Bd w b (o+i*r.n) cs∧Ow w S d r cs y G)→
    ∃css,FZ w S d r css ys Fs∧Bd w b o css.flatten:=by
   intro n
   induction n with
   |zero=>
    intro o ys Fs h1 h2 _;obtain rfl:=ARJ h1;obtain rfl:=ARJ h2;exact⟨[],⟨rfl,rfl,by simp,fun i cs y G h=>by simp at h⟩,fun _ _ h=>by simp at h⟩
   |succ n ih=>
    intro o ys Fs h1 h2 hh;obtain⟨y,ys,rfl⟩:=AYI h1;obtain⟨G,Fs,rfl⟩:=AYI h2;obtain⟨cs,c1,c2,c3⟩:=hh 0 y G rfl rfl;obtain⟨css,d1,d2⟩:=ih (o+r.n) ys Fs (by simp_all) (by simp_all) (fun i z G hz hG=>by
     obtain⟨cs,e1,e2,e3⟩:=hh (i+1) z G (by simp_all) (by simp_all);grind)
    refine⟨cs::css,⟨by simp[d1.1],by omega,fun c hc=> ?_,fun i ez y' G' a b c=> ?_⟩,?_⟩
    ·rcases AQQ.1 hc with rfl|hc
     ·omega
     ·exact d1.2.2.1 c hc
    ·cases i with
     |zero=>simp_all
     |succ i=>exact d1.2.2.2 i ez y' G' (by simp_all) (by simp_all) (by simp_all)
    grind[List.flatten_cons,Bd.append]
  obtain⟨css,k1,k2⟩:=key rows.length o rows Fs rfl hFl hr;refine⟨_,cap,css,Fs,[b],rfl,hle,k1,?_,.inr ⟨b,o,arr,ty,fr,rfl,hb,P9,hu,rfl,k2⟩⟩;grind
theorem mX{w:World}{S:Nat→Prop}:∀{r:Ty} {cs:List Value} {x:r.D},Rd w S r cs x→Ow w S 0 r cs x []
 | .cons c r,cs,x,hr=>by
  simp only[Rd]at hr;obtain⟨v,l,rfl,h1,h2⟩:=hr;simp only[Ow];exact⟨v,l,[],[],rfl,rfl,mX h1,mX h2⟩
 | .unit,_,_,hr=>by grind[Rd,Ow]
 | .int k,_,_,hr=>by grind[Rd,Ow]
 | .bool,_,_,hr=>by grind[Rd,Ow]
 | .str,_,_,hr=>by grind[Rd,Ow]
 | .sl q,_,_,hr=>by simp only[Ow];simp_all
theorem gS{P:Program}{E:Env}{w:World}{vw bx:List Bx}{G:ABa}(h:C7 E w vw bx G)(hw:Fa bx vw){x:AV}{v:Value}(hv:VR E w vw x v){r:Ty}{rows:List r.D}{Q7:List Bx}{d:Nat}
  (e:pB bx x=some ⟨r,rows,Q7,d⟩):1≤d∧ ∃E' F css Fs R,HM E w vw bx G E' Q7 F∧F.Perm (List.flatten Fs++R)∧FZ w E'.S (d-1) r css rows Fs∧lK P w r.n rows.length v css.flatten:=by
 have plain:∀{B:Nat→Prop} {ys:List r.D},r.flat=true→Rd w B (.sl r) [v] ys→ ∀S:Nat→Prop,∃css,FZ w S 8 r css ys (List.replicate ys.length [])∧lK P w r.n ys.length v css.flatten:=by
  intro B ys hf hr S;simp only[Rd]at hr;obtain⟨a,cap,e1,hle,hr⟩:=hr;simp only[AQ_,AUD]at e1;subst e1;rcases hr with hr|⟨b,o,rfl,_,hr⟩
  ·have:ys=[]:=ARJ hr
   subst this;exact⟨[],⟨rfl,rfl,by simp,fun i cs y G h=>by simp at h⟩,RD (css:=[]) rfl (by simp) (.inl rfl)⟩
  ·obtain⟨css,c1,c2,c3,c4⟩:=q7 hr
   exact⟨css,FZ.flat hf c1 c2 c4,RD c1 c2 (.inr ⟨b,o,rfl,c3⟩)⟩
 have done:∀{B:Nat→Prop} {ys:List r.D},r.flat=true→Rd w B (.sl r) [v] ys→rows=ys→Q7=bx→d=9→
   1≤d∧ ∃E' F css Fs R,HM E w vw bx G E' Q7 F∧F.Perm (List.flatten Fs++R)∧FZ w E'.S (d-1) r css rows Fs∧lK P w r.n rows.length v css.flatten:=by
  intro B ys hf hr e1 e2 e3;subst e1 e2 e3;obtain⟨css,k1,k2⟩:=plain hf hr E.S;exact⟨by omega,E,[],css,_,[],HM.refl h,by simp,k1,k2⟩
 unfold pB at e;split at e
 ·rename_i s
  simp only[AM7,AN9]at e;obtain⟨rfl,e⟩:=e;have e:=ASN e;simp only[ARb]at e;obtain⟨rfl,rfl,rfl⟩:=e;have Zf:=YZ hv;subst Zf;refine⟨by omega,E,[],s.map fun c=>[Value.int .u8 (c.toNat:Int)],_,[],HM.refl h,?_,FZ.flat (B:=fun _=>False) rfl (by simp) (by simp[Ty.n]) (fun i cs y a b=> ?_),?_⟩
  ·simp
  ·simp only[ATh,AM9]at a b
   obtain⟨c1,z1,rfl⟩:=a;obtain⟨c2,z2,rfl⟩:=b;grind[Rd]
  grind[AD4,Ty.n]
 ·rename_i s q ys
  split at e
  ·rename_i hf
   simp only[AM7,AN9]at e;obtain⟨rfl,e⟩:=e;have e:=ASN e;simp only[ARb]at e;obtain⟨rfl,rfl,rfl⟩:=e;exact done hf hv rfl rfl rfl
  ·split at e
   case isFalse=>cases e
   rename_i hs;simp only[AM7,AN9]at e;obtain⟨rfl,e⟩:=e;have e:=ASN e;simp only[ARb]at e;obtain⟨rfl,rfl,rfl⟩:=e;subst hs;simp only[VR,AT8]at hv;simp only[Rd]at hv;obtain⟨a,cap,e1,hle,hr⟩:=hv;simp only[AQ_,AUD]at e1;subst e1;have key:∃css:List (List Value),List.length css=ys.length∧(∀c∈css,c.length=q.n)∧(∀(i:Nat) cs y,css[i]? =some cs→ys[i]? =some y→Rd w E.S q cs y)∧lK P w q.n ys.length (.slice a ys.length cap) css.flatten:=by
    rcases hr with hr|⟨b,o,rfl,_,hr⟩
    ·have:ys=[]:=ARJ hr
     subst this;exact⟨[],rfl,by simp,fun i cs y h=>by simp at h,RD (css:=[]) rfl (by simp) (.inl rfl)⟩
    ·obtain⟨css,c1,c2,c3,c4⟩:=q7 hr
     exact⟨css,c1,c2,c4,RD c1 c2 (.inr ⟨b,o,rfl,c3⟩)⟩
   obtain⟨css,c1,c2,c3,c4⟩:=key;refine⟨AQm _,E,[],css,List.replicate ys.length [],[],HM.refl h,by simp,⟨c1,by simp,c2,fun i cs y G a b c=> ?_⟩,c4⟩;grind[List.mem_of_getElem?,mX]
 ·rename_i b
  split at e
  case h_2=>cases e
  rename_i d0 q ys hb;split at e
  ·rename_i hf
   simp only[AM7,AN9]at e;obtain⟨rfl,e⟩:=e;have e:=ASN e;simp only[ARb]at e;obtain⟨rfl,rfl,rfl⟩:=e;obtain⟨Fs,hB,hS⟩:=h;exact done hf (bH hw hB hS.st hv (q:=q) (ys:=ys) (by simp[N8,hb,HF])) rfl rfl rfl
  ·simp only[AM7,AN9]at e
   obtain⟨rfl,e⟩:=e;have e:=ASN e;simp only[ARb]at e;obtain⟨rfl,rfl,rfl⟩:=e;obtain⟨F,⟨hd,ho⟩,hB⟩:=h.take hb;have hvw:=ZY hw hb;simp only[VR,hvw,C8,AM7]at hv;obtain⟨_,_,_,rfl⟩:=hv;obtain⟨m,rfl⟩:∃m,d0=m+1:=⟨d0-1,by omega⟩;obtain⟨a,cap,css,Fs,R,e1,hle,da,hp,hcase⟩:=pO ho;refine⟨hd,E,F,css,Fs,R,⟨Le.refl _,by simp,fun n B hn=> ?_,hB⟩,hp,da,?_⟩
   ·grind
   ·rw[e1]
    refine RD da.1 da.2.2.1 ?_
    grind
 ·rename_i b p _
  split at e
  case h_2=>cases e
  rename_i d0 q ys hb;simp only[ANL]at e;obtain⟨⟨q',zs⟩,e1,e⟩:=e;dsimp only at e;split at e
  case isFalse=>cases e
  rename_i hf;simp only[AM7,AN9]at e;obtain⟨rfl,e⟩:=e;have e:=ASN e;simp only[ARb]at e;obtain⟨rfl,rfl,rfl⟩:=e;obtain⟨Fs,hB,hS⟩:=h;exact done hf (bH hw hB hS.st hv (q:=q') (ys:=zs) (by simp[N8,hb,e1])) rfl rfl rfl
 ·rename_i b p off n
  split at e
  case h_2=>cases e
  rename_i d0 q ys hb;simp only[ANL]at e;obtain⟨⟨q',zs⟩,e1,e⟩:=e;dsimp only at e;split at e
  case isFalse=>cases e
  rename_i hf;simp only[AM7,AN9]at e;obtain⟨rfl,e⟩:=e;have e:=ASN e;simp only[ARb]at e;obtain⟨rfl,rfl,rfl⟩:=e;obtain⟨Fs,hB,hS⟩:=h;exact done hf (bH hw hB hS.st hv (q:=q') (ys:=(zs.drop off).take n) (by simp[N8,hb,e1])) rfl rfl rfl
 simp_all
theorem gR{E:Env}{w:World}{vw bx:List Bx}{G:ABa}(h:C7 E w vw bx G)(hw:Fa bx vw){x:AV}{v:Value}(hv:VR E w vw x v){r:Ty}{rows:List r.D}{Q7:List Bx}{d:Nat}
  (e:pD bx x=some ⟨r,rows,Q7,d⟩):1≤d∧ ∃F1 F2,HM E w vw bx G E Q7 (F1++F2)∧Ow w E.S d (.sl r) [v] rows F1:=by
 have tk:∀{b d0:Nat} {q:Ty} {ys:List q.D},bx[b]? =some (.sl d0 q ys)→ ∃F,1≤d0∧Ow w E.S d0 (.sl q) [E.IE b] ys F∧HM E w vw bx G E (bx.set b .dead) F:=by
  intro b d0 q ys hb;obtain⟨F,⟨hd,ho⟩,hB⟩:=h.take hb;refine⟨F,hd,ho,⟨Le.refl _,by simp,fun n B hn=> ?_,hB⟩⟩;grind
 unfold pD at e;split at e
 ·rename_i b
  split at e
  case h_2=>cases e
  rename_i d0 q ys hb;simp only[AM7,AN9]at e;obtain⟨rfl,e⟩:=e;have e:=ASN e;simp only[ARb]at e;obtain⟨rfl,rfl,rfl⟩:=e;obtain⟨F,hd,ho,hT⟩:=tk hb;have hvw:=ZY hw hb;simp only[VR,hvw,C8,AM7]at hv;obtain⟨_,_,_,rfl⟩:=hv;exact⟨hd,F,[],by simp_all,ho⟩
 ·rename_i b off n
  split at e
  case h_2=>cases e
  rename_i d0 q ys hb;simp only[AM7,AN9]at e;obtain⟨rfl,e⟩:=e;have e:=ASN e;simp only[ARb]at e;obtain⟨rfl,rfl,rfl⟩:=e;obtain⟨F,hd,ho,hT⟩:=tk hb;have hvw:=ZY hw hb;simp only[VR,hvw,C8,AM7]at hv;obtain⟨_,_,q',zs,a,len,cap,h1,h2,h3,rfl⟩:=hv;simp only[HF,AM7,AN9]at h1;obtain⟨rfl,h1⟩:=h1;obtain rfl:=ASN h1;rw[h3]at ho;obtain⟨m,rfl⟩:∃m,d0=m+1:=⟨d0-1,by omega⟩;obtain⟨F1,F2,hp,yY⟩:=AFe ho h2;exact⟨hd,F1,F2,⟨hT.le,hT.len,hT.within,hT.boxes.perm (AWP _ hp)⟩,yY⟩
 simp_all
end Go.Fw
end
section
namespace Go.Fw
theorem gO{P:Program}{w:World}{a:Option Addr}{n cap size:Nat}{css:List (List Value)}(hl:css.length=n)(hc:∀c∈css,c.length=size)
  (h:n=0∨ ∃b o,a=some ⟨b,o,none⟩∧Bd w b o css.flatten):∀w',w'.heap=w.heap→(Builtin.firstCells size n (.slice a n cap)).run P w' = .ok css.flatten.toArray w':=
 (RD (P:=P) (cap:=cap) hl hc h).cells
theorem aG{z:Array Value}{n:Nat}:(Builtin.zeroCells z n).size=n*z.size:=size_zeroCells z n
section
variable{Y:Type} {P:Program} {T:Jw} (hT:E5 P T) {o:Oper} {E:Env} {σ:St} {a:Act} {w:World} {k:K Y} {y:Y}
include hT
theorem nV(h:Rel E σ a w){E2:Env}{bg:List Bx}{F Fd R:ABa}{t u ty:TypeId}{ts:Array TypeId}(yK:ts[0]? =some t)(xw:ts[1]? =some u)
  (hu:(∃e,P.underlying u=some (.slice e))∨P.underlying u=some .string) {m:Nat} {r:Ty} (VO:T.N3 t r=true)
  (kT:HM E w σ.bx σ.bx [] E2 bg F) {v1 v2:Value} {drows Th:List r.D} {css:List (List Value)} {Fs:List ABa}
  (ho:Ow w E2.S (m+1) (.sl r) [v1] drows Fd) (hs:FZ w E2.S m r css Th Fs) (hn:lK P w r.n Th.length v2 css.flatten) (hp:F.Perm (Fd++Fs.flatten++R)) (Yl:drows.length+Th.length≤DE):
  ∃v w' E',(Builtin.append_ ts ty #[v1,v2]).run P w= .ok v w'∧Rel E' { σ with bx:=bg++[.sl (m+1) r (drows++Th)] } a w'∧SC [] E σ.bx w E' (bg++[.sl (m+1) r (drows++Th)]) w'∧
   XR E' w' (bg++[.sl (m+1) r (drows++Th)]) (.c (.ref bg.length [])) v:=by
 obtain⟨e,ti,hut,VI,hs1,hby,hrow⟩:=K4 hT VO;obtain⟨i,z,i1,i2,i3,i4,i5,hg⟩:=Xe hT VI hrow;rw[hs1]at i2;obtain⟨Fs0,hB1,Yk⟩:=kT.boxes;simp only[AN6]at Yk;have hdF:∀c∈Fd,c∈F:=fun c hc=>hp.mem_iff.2 (by simp[hc])
 have hsF:∀c∈Fs.flatten,c∈F:=fun c hc=>hp.mem_iff.2 (by simp_all)
 have ndF:=(AOY.1 (hp.nodup_iff.1 (AOY.1 Yk.nodup).2.1)).1;have ltF:∀c∈F,c<w.heap.size:=fun c hc=>Yk.lt c (by simp_all)
 have AdQ:∀c∈F,¬E2.S c:=fun c hc hS=>Yk.free c (by simp_all) (Yk.st c hS)
 have ho0:=ho;obtain⟨ad,cap,dcss,Fs1,R1,rfl,hle,hd,hp1,hcase⟩:=pO ho;have aS:css.flatten.length=Th.length*r.n:=by rw[H4 hs.2.2.1,hs.1]
 have hdl:dcss.flatten.length=drows.length*r.n:=by rw[H4 hd.2.2.1,hd.1]
 by_cases UA:drows.length+Th.length≤cap
 ·rcases hcase with⟨h0,hF0⟩|⟨b,of,arr,ty0,fr,rfl,hb,P9,hunf,rfl,hc⟩
  ·
   have hd0:drows=[]:=ARJ (by omega);have hs0:Th=[]:=ARJ (by omega);subst hd0 hs0;have hc0:css=[]:=ARJ hs.1;subst hc0 h0;have mf:=o_ (P:=P) (w:=w) (ty:=ty) yK xw hut hu i1 i2 (a:=ad) (x:=v2) (by simp_all);obtain⟨r1,r2,r3⟩:=UU h kT (w':=w) (d:=m+1) (by omega) ho0 (fun c hc=> .inl (hdF c hc)) (AOY.1 ndF).1 (fun c hc=>ltF c (hdF c hc)) (fun _ _ _=>rfl) ⟨rfl,rfl,rfl,AQm _⟩;grind
  ·
   have eg:of+drows.length*r.n+css.flatten.length≤arr.size:=by
    have:(drows.length+Th.length)*r.n≤cap*r.n:=AP0 _ UA;grind
   have mf:=gP (P:=P) (w:=w) (ty:=ty) yK xw hut hu i1 i2 (b:=b) (o:=of) hn UA (VA hb eg hunf) hs.one;have hbF:b∈F:=hdF b (by simp);have fT:∀c,c∈Fs1.flatten∨c∈Fs.flatten∨E2.S c→c≠b:=by
    grind
   have fm:∀c,c≠b→(w.setCells b (of+drows.length*r.n) css.flatten).heap[c]? =w.heap[c]?:=fun c hc=>DP _ _ _ _ _ hc
   have xt:=hd.mono (w':=w.setCells b (of+drows.length*r.n) css.flatten) (S':=E2.S) (fun _ h=>h) (fun c hc=>fm c (fT c (.inr (.inr hc)))) (fun c hc=>fm c (fT c (.inl hc)));have hs':=hs.mono (w':=w.setCells b (of+drows.length*r.n) css.flatten) (S':=E2.S) (fun _ h=>h) (fun c hc=>fm c (fT c (.inr (.inr hc)))) (fun c hc=>fm c (fT c (.inr (.inl hc))));have iy:=xt.append hs';have AEf:Bd (w.setCells b (of+drows.length*r.n) css.flatten) b of (dcss++css).flatten:=by
    grind[List.flatten_append,Bd.append,U8,PO]
   have how:Ow (w.setCells b (of+drows.length*r.n) css.flatten) E2.S (m+1) (.sl r) [.slice (some ⟨b,of,none⟩) (drows.length+Th.length) cap] (drows++Th) (b::(Fs1++Fs).flatten):=by
    simp only[Ow];refine⟨_,cap,by rw[AQU],by simp_all,.inr ⟨b,of,_,ty0,fr,Fs1++Fs,rfl,Fy _ _ _ _ _ _ _ hb,by rw[Ft];omega,by rw[Ft];omega,rfl,iy.2.1,fun j q G hq hG=> ?_⟩⟩;have hj:=(AM_.1 hq).1;have h1:=iy.1;have yU:j<(dcss++css).length:=by omega
    refine⟨(dcss++css)[j],iy.2.2.1 _ (ANa _),fun x u hx=> ?_,iy.2.2.2 j _ _ _ (AMt yU) hq hG⟩;have hxl:=(AM_.1 hx).1;rw[iy.2.2.1 _ (ANa _)]at hxl;have:=ZG (n:=r.n) (css:=dcss++css) (ex:=[]) (i:=j) iy.2.2.1 (AMt yU) hxl;rw[AN6,hx]at this;have:=AEf _ _ this;grind
   have rJ:(b::(Fs1++Fs).flatten)=(b::Fs1.flatten)++Fs.flatten:=by simp
   rw[rJ]at how;obtain⟨r1,r2,r3⟩:=UU h kT (w':=w.setCells b (of+drows.length*r.n) css.flatten) (d:=m+1) (by omega) how (fun c hc=> .inl ((AOt.1 hc).elim (hdF c) (hsF c))) ndF
    (fun c hc=>by grind[Dd]) (fun c hc hcF=>fm c (fun e=>hcF (e▸hbF))) (B7 _ _ _ _)
   grind
 ·
  have hold:drows.length=0∨ ∃b o,ad=some ⟨b,o,none⟩∧Bd w b o dcss.flatten:=by
   grind
  have mf:=dA (P:=P) (w:=w) (ty:=ty) yK xw hut hu i1 i4 i2 (gO (P:=P) (cap:=cap) hd.1 hd.2.2.1 hold) hn (by omega) Yl (by omega);have yS:=grownCap_ge w (drows.length+Th.length) cap e
  generalize hgc:grownCap w (drows.length+Th.length) cap e=gc at mf yS
  let arr:Array Value:=dcss.flatten.toArray++css.flatten.toArray++Builtin.zeroCells z.cells (gc-(drows.length+Th.length))
  have df:arr.toList=(dcss++css).flatten++(Builtin.zeroCells z.cells (gc-(drows.length+Th.length))).toList:=by simp[arr]
  have hzl:z.cells.size=r.n:=by rw[←AXQ,i5,G5]
  have Aax:arr.size=gc*r.n:=by
   simp only[arr,AYR,AYS,aG,hzl,aS,hdl,←AUV];simp_all
  let w':=w.drew.alloc (.cells arr e)
  have new:w'.heap[w.heap.size]? =some (.cells arr e):=by
   show(w.heap.push (.cells arr e))[w.heap.size]? =_
   simp
  have AFq:∀c,c<w.heap.size→w'.heap[c]? =w.heap[c]?:=fun c hc=>JA (w:=w) (o:= .cells arr e) hc
  have hR1:∀c∈Fs1.flatten,c∈Fd:=fun c hc=>hp1.mem_iff.2 (by simp_all)
  have xt:=hd.mono (w':=w') (S':=E2.S) (fun _ h=>h) (fun c hc=>AFq c (Yk.dr c (Yk.st c hc))) (fun c hc=>AFq c (ltF c (hdF c (hR1 c hc))));have hs':=hs.mono (w':=w') (S':=E2.S) (fun _ h=>h) (fun c hc=>AFq c (Yk.dr c (Yk.st c hc))) (fun c hc=>AFq c (ltF c (hsF c hc)));have iy:=xt.append hs';have how:Ow w' E2.S (m+1) (.sl r) [.slice (some ⟨w.heap.size,0,none⟩) (drows++Th).length gc] (drows++Th) (w.heap.size::(Fs1++Fs).flatten):=
   fA new df iy.1 (by simp_all) (by omega) (Xh _) iy.2.1 iy.2.2.2
  rw[AQU]at how;have U2:∀c∈(Fs1++Fs).flatten,c∈Fd++Fs.flatten:=by
   grind
  have nd1:(Fs1++Fs).flatten.Nodup:=by
   grind
  have AgN:∀c∈(Fs1++Fs).flatten,c∈F:=fun c hc=>(AOt.1 (U2 c hc)).elim (hdF c) (hsF c)
  obtain⟨r1,r2,r3⟩:=UU h kT (w':=w') (d:=m+1) (by omega) how (by
    simp_all) (by
    grind) (by
    grind) (fun c hc _=>AFq c hc) ⟨rfl,rfl,rfl,by simp[w']⟩
  grind
end
end Go.Fw
end
section
namespace Go.Fw
theorem Ya{α β:Type}{args:Array α}{f:α→β}{x y:β}(h:args.toList.map f=[x,y]):∃a b,args= #[a,b]∧f a=x∧f b=y:=by
 obtain⟨l⟩:=args
 match l,h with
 |[a,b],h=>grind
theorem Yd{α β:Type}{args:Array α}{f:α→β}{x:β}(h:args.toList.map f=[x]):∃a,args= #[a]∧f a=x:=by
 obtain⟨l⟩:=args;simp_all
section
variable{Y:Type} {P:Program} {T:Jw} (hT:E5 P T) {o:Oper} {E:Env} {σ:St} {a:Act} {w:World} {k:K Y} {y:Y}
include hT
theorem xI(h:Rel E σ a w){c:Call}{x1 x2:XV}(ho:o.op= .call c)(hc:c.callee= .builtin .append)(Ih:c.args.toList.map σ.ev=[x1,x2])(e:fQ T c.argTypes σ x1 x2 k=some y):ME P o E σ a w k y:=by
 obtain⟨o1,o2,hargs',rfl,rfl⟩:=Ya Ih;have aa:=h.ev o1;have aw:=h.ev o2;have exec:∀{v w'},(Builtin.append_ c.argTypes o.type #[a.eval o1,a.eval o2]).run P w= .ok v w'→(execOp a.eval o).run P w= .ok (.value v) w':=by
  intro v w' hr;simp only[execOp,ho,resolve,hc,hargs',invoke,builtin,Sem.run_bind,Sem.run_pure,Result.andThen_ok,List.map_toArray,AVt,AYM,hr]
 unfold fQ at e;split at e
 case h_2=>cases e
 rename_i t u yK xw;split at e
 case isFalse=>cases e
 rename_i hu;have hu':(∃e,P.underlying u=some (.slice e))∨P.underlying u=some .string:=by
  rw[AUE]at hu;grind[lL,YT]
 split at e
 ·
  rename_i z hz1 hz2;rw[hz1]at aa;rw[hz2]at aw;simp only[ANL]at e;obtain⟨⟨r,rows,Q7,d⟩,e1,e⟩:=e;dsimp only at e;split at e
  case isFalse=>cases e
  rename_i VO;split at e
  case isFalse=>cases e
  rename_i Yl;obtain⟨hd,E',F,css,Fs,R,kT,hp,hs,hn⟩:=gS (P:=P) h.bx (Fa.refl _) aw e1;obtain⟨m,rfl⟩:∃m,d=m+1:=⟨d-1,by omega⟩;have AZm:a.eval o1= .slice none 0 0:=aa;obtain⟨v,w',E3,hr,r1,r2,r3⟩:=nV hT h (ty:=o.type) yK xw hu' VO kT (v1:= .slice none 0 0) (Fd:=[]) (drows:=[]) pt hs hn (R:=R) (by simp_all) (by simp_all);rw[←AZm]at hr;simp only[AT6]at r1 r3;exact⟨_,_,_,_,_,.inl (exec hr),r1,r3,r2.any,rfl,e⟩
 ·rename_i z1 z2 hnn hz1 hz2
  rw[hz1]at aa;rw[hz2]at aw;simp only[ANL]at e;obtain⟨⟨r,rows,kt,d⟩,e1,e⟩:=e;dsimp only at e;split at e
  case isFalse=>cases e
  rename_i VO;simp only[ANL]at e;obtain⟨⟨q,srows0,bg,ds⟩,e2,Th,e3,e⟩:=e;dsimp only at e e3;obtain⟨hqr,e4⟩:=IK e3;subst hqr;subst e4;dsimp only at e;split at e
  case isFalse=>cases e
  rename_i Yl;obtain⟨hd,F1,F2,k1,ho1⟩:=gR h.bx (Fa.refl _) aa e1;obtain⟨hds,E',F3,css,Fs,R,k2,hp,hs,hn⟩:=gS (P:=P) k1.boxes ((Fa.refl _).qu k1) aw e2;obtain⟨m,hm⟩:∃m,min d ds=m+1:=⟨min d ds-1,by omega⟩;rw[hm]at e;obtain⟨A,W1,p1,ho1'⟩:=KG (d:=m+1) (by omega) ho1;obtain⟨Gs,W2,p2,hs'⟩:=hs.weaken (d':=m) (by omega);have hB:=k2.boxes.perm (G':=(A++Gs.flatten++(R++F2))++(W1++W2)++[]) (by
   grind)
  obtain⟨hle,Yk⟩:=hB.share;have kT:HM E w σ.bx σ.bx [] _ bg (A++Gs.flatten++(R++F2)):=⟨(k1.le.trans k2.le).trans hle,k2.len.trans k1.len,fun b B hb=>(k2.within b B hb).elim .inl (k1.within b B),Yk⟩;have ho2:Ow w (fun c=>E'.S c∨c∈W1++W2) (m+1) (.sl q) [a.eval o1] rows A:=
   Eh (fun c hc=>hc.imp (k2.le.S c) (by simp_all)) (fun _ _=>rfl) (fun _ _=>rfl) ho1'
  have hs2:FZ w (fun c=>E'.S c∨c∈W1++W2) m q css srows0 Gs:=hs'.mono (fun c hc=>hc.imp id (by simp_all)) (fun _ _=>rfl) (fun _ _=>rfl);obtain⟨v,w',E3,hr,r1,r2,r3⟩:=nV hT h (ty:=o.type) yK xw hu' VO kT ho2 hs2 hn (AYj _) Yl;exact⟨_,_,_,_,_,.inl (exec hr),r1,r3,r2.any,rfl,e⟩
 simp_all
end
end Go.Fw
end
section
namespace Go.Fw
theorem od{P:Program}{w:World}{b o:Nat}{ty:TypeId}{v:Value}(ht:w.there b o v.cells.toList.length)(hi:(P.info? ty).map (·.size)=some v.cells.toList.length)(h1:∀u∈v.cells.toList,u.oneCell' =true):
  (Instr.storeAt ty (.pointer (some ⟨b,o,none⟩)) v).run P w= .ok () (w.setCells b o v.cells.toList):=by
 have:=run_storeCells_cells (P:=P) b o v.cells.toList 0 w (fun j hj=>by simpa using(ht j hj).1) (fun j hj=>by simpa using(ht j hj).2) h1;cases hq:P.info? ty with
 |none=>simp_all
 |some i=>
  have hs:v.cells.size=i.size:=by simp_all
  simp only[AVe]at this;simp[Instr.storeAt,Instr.sureAddr,storeVar,sizeOf,typeInfo,hq,hs,this]
theorem cq{E E1 E':Env}{w w':World}{vw kt Q7:List Bx}{F:ABa}(b0:Nat)(k:HM E w vw vw [] E1 kt F)(st:∀c,E.S c→E.T c)(hlen:vw.length≤Q7.length)
  (wD:∀b d r rows,b≠b0→b<vw.length→Q7[b]? =some (.sl d r rows)→kt[b]? =some (.sl d r rows)) (AGL:∀b,b<vw.length→E'.ID b=E1.ID b) (oB:∀b,b<vw.length→E'.IE b=E1.IE b) (hT:E'.T=E1.T) (hS:E'.S=E1.S)
  (hw:∀c,c<w.heap.size→c∉F→w'.heap[c]? =w.heap[c]?)
  (h0:∀d r rows,Q7[b0]? =some (.sl d r rows)→ ∃d0 SG,vw[b0]? =some (.sl d0 r SG)∧
   ∀p,DD r SG p→ ∀q ys,HF r SG p=some ⟨q,ys⟩→DD r rows p∧(∃wI,HF r rows p=some ⟨q,wI⟩∧List.length wI=List.length ys)∧
    ∀h,JB w (E.IE b0) p=some h→JB w' (E'.IE b0) p=some h):Tp E w vw E' w' Q7:=by
 have hB:=k.boxes;obtain⟨Fs,⟨h1,h2⟩,h3⟩:=hB;simp only[AN6]at h3;have yV:∀c,E1.T c→w'.heap[c]? =w.heap[c]?:=fun c hc=>hw c (h3.dr c hc) fun hf=>h3.free c (by simp[hf]) hc
 refine⟨hlen,fun b hb=>by rw[AGL b hb,k.le.ID],fun c hc=>by rw[hT];exact k.le.T c hc,fun c hc=>by rw[hS];exact k.le.S c hc,st,fun c hc=>yV c (k.le.T c hc),fun b d r rows hb e=> ?_⟩;by_cases hb0:b=b0
 ·simp_all
 have e1:=wD b _ _ _ hb0 hb e;rcases k.within b _ e1 with e2|e2
 ·cases e2
 ·refine⟨d,rows,e2,fun p hp q ys hg=>⟨hp,⟨ys,hg,rfl⟩,fun h' hh=> ?_⟩⟩
  have hF:Fs[b]? =some (Fs[b]'(by grind)):=AMt _;obtain⟨hd,ho⟩:=h2 b _ _ e1 hF;rw[oB b hb];rw[←k.le.IE]at hh;refine vP ho (fun c hc=>yV c (h3.st c hc)) (fun c hc=> ?_) hp hg hh;have U2:c∈Fs.flatten:=AT1.2 ⟨_,APy hF,hc⟩;exact hw c (h3.lt c (by simp[U2])) fun hf=>(AOY.1 h3.nodup).2.2 c U2 c hf rfl
def Bx.map(f:AV→AV):Bx→Bx
 | .mem cs=> .mem (cs.map f)
 |B=>B
theorem C7.AWq{E E':Env}{w w':World}{vw vw' bx:List Bx}{G:ABa}(f:AV→AV)(h:C7 E w vw bx G)(k:∀x v,VR E w vw x v→VR E' w' vw' (f x) v)
  (hS:∀c,E.S c→E'.S c) (AGL:∀b,b<bx.length→E'.ID b=E.ID b) (oB:∀b,b<bx.length→E'.IE b=E.IE b)
  (hw:∀c,(E.S c∨(¬E.T c∧c∉G))→c<w.heap.size→w'.heap[c]? =w.heap[c]?)
  (AEb:∀F,Sep E w (F++G)→Sep E' w' (F++G)):C7 E' w' vw' (bx.map (Bx.map f)) G:=by
 obtain⟨Fs,⟨hl,h1⟩,h2⟩:=h;refine⟨Fs,⟨by simp_all,fun n B F hn hF=> ?_⟩,AEb _ h2⟩;rw[ATh,AM9]at hn;obtain⟨B,hn,rfl⟩:=hn;have Hh:=(AM_.1 hn).1;have h3:=h1 n B F hn hF;have APA:∀c∈F,c∈Fs.flatten:=fun c hc=>AT1.2 ⟨F,APy hF,hc⟩
 have hFw:∀c∈F,w'.heap[c]? =w.heap[c]?:=fun c hc=>hw c (.inr ⟨h2.free c (by simp_all),fun hg=>by
  have:=(AOY.1 h2.nodup).2.2 c (APA c hc) c hg;omega⟩) (h2.lt c (by simp_all))
 have uP:∀c,E.S c→w'.heap[c]? =w.heap[c]?:=fun c hc=>hw c (.inl hc) (h2.dr c (h2.st c hc))
 cases B with
 |mem cs=>
  obtain⟨rfl,arr,ty,fr,ha,hu,hv⟩:=h3;refine⟨by simp_all,arr,ty,fr,?_,hu,CY.MG f k hv⟩;simp_all
 |sl d r rows=>
  obtain⟨hd,ho⟩:=h3;refine⟨hd,?_⟩;grind[Eh]
 |dead=>exact h3
theorem Bx.map_id:∀B:Bx,Bx.map id B=B
 | .mem cs=>by simp[Bx.map]
 | .sl _ _ _=>rfl
 | .dead=>rfl
theorem bd(bx:List Bx):bx.map (Bx.map id)=bx:=by
 induction bx with
 |nil=>rfl
 |cons B l ih=>simp[ih,Bx.map_id]
theorem np(b:Nat)(bx:List Bx):bx.map (ABX b)=bx.map (Bx.map (Jy b)):=by
 rfl
theorem AC3{E:Env}{σ:St}{a:Act}{w:World}(h:Rel E σ a w){b j:Nat}{cs ez:List AV}(hb:σ.bx[b]? =some (.mem cs)){xs:List AV}{vs:List Value}(hx:jh E w σ.bx xs vs)(fT:xs≠[])
  (e:Yb cs j xs=some ez):
  w.there (E.ID b) j vs.length∧Rel E { σ with bx:=σ.bx.set b (.mem ez) } a (w.setCells (E.ID b) j vs)∧SC [b] E σ.bx w E (σ.bx.set b (.mem ez)) (w.setCells (E.ID b) j vs):=by
 have st:=h.bx.st;obtain⟨F,⟨rfl,arr,ty,fr,ha,hu,hv⟩,hB⟩:=h.bx.take hb;simp only[AN6]at hB;have Hh:=(AM_.1 hb).1;rcases Xu hv hx e with⟨h1,h2⟩|⟨h1,_⟩
 case inr=>simp_all
 have eg:j+vs.length≤arr.size:=by
  have l1:=CY.len hv;have l2:=CY.len hx;simp_all
 have dU: ¬E.T (E.ID b):=hB.AEV _ (by simp);have hB0:=hB;have fm:∀c,c≠E.ID b→(w.setCells (E.ID b) j vs).heap[c]? =w.heap[c]?:=fun c hc=>DP _ _ _ _ _ hc
 have hw:∀c,c<w.heap.size→c∉[E.ID b]→(w.setCells (E.ID b) j vs).heap[c]? =w.heap[c]?:=fun c _ hc=>fm c (by simp_all)
 have kT:HM E w σ.bx σ.bx [] E (σ.bx.set b .dead) [E.ID b]:=⟨Le.refl _,by simp,fun n B hn=>by
  grind,by simp_all⟩
 have keep:Tp E w σ.bx E (w.setCells (E.ID b) j vs) (σ.bx.set b (.mem ez)):=cq b kT st (by simp) (fun n d r rows hn _ hq=>by
   grind) (fun _ _=>rfl) (fun _ _=>rfl) rfl rfl hw (fun d r rows hq=>by
   simp_all)
 refine⟨VA ha eg hu,⟨h.ON,h.tm.imp fun _ _ hq=>PW keep hq,?_⟩,⟨⟨fun _ h=>h,fun _ h=>h,fun _ h=> .inl h,fun _ h=> .inl h,fun c hc=>fm c (fun e=>dU (e▸hc)),(B7 _ _ _ _).os,(B7 _ _ _ _).tape,(B7 _ _ _ _).output,(B7 _ _ _ _).size⟩,by simp,fun _ _=>⟨rfl,rfl⟩,fun n hn=>by
  grind,fun n B B' sD hB UQ hnd=>by
  simp at sD;rw[AT4 (fun e=>sD e.symm),hB]at UQ;cases UQ;refine⟨WM.refl hnd,fun c hc=>fm c (fun e=> ?_)⟩;obtain⟨Fs,⟨f1,f2⟩,f3⟩:=hB0;have Yk:(σ.bx.set b .dead)[n]? =some B:=by grind
  have hF:Fs[n]? =some (Fs[n]'(by grind)):=AMt _;rcases fP (f2 n B _ Yk hF) hc with hs|hs
  ·simp_all
  ·exact(AOY.1 f3.nodup).2.2 c (AT1.2 ⟨_,APy hF,hs⟩) (E.ID b) (by simp) e⟩⟩
 have hT:=hB.turn (E':=E) (w':=w.setCells (E.ID b) j vs) (vw':=σ.bx.set b (.mem ez)) (fun x v hq=>Gd keep hq) (fun _ h=>h) (fun _ _=>rfl) (fun _ _=>rfl) (fun c hc _=>fm c (fun e=>by
   simp_all)) (fun F hF=>⟨hF.nodup,hF.free,fun c hc=>by rw[Dd];exact hF.lt c hc,hF.st,fun c hc=>by rw[Dd];exact hF.dr c hc⟩)
 have:=C7.put (b:=b) (B:= .mem ez) (F:=[E.ID b]) (G:=[]) (by simpa using hT) (by simp_all) ⟨rfl,FT arr j vs,ty,fr,Fy _ _ _ _ _ _ _ ha,by rw[Ft];omega,h1.imp fun _ _ hq=>Gd keep hq⟩;simp_all
theorem Xx:∀{r:Ty} {j j':Nat} {x:r.D} {t:Ty} {y:t.D} {x':r.D},D_ r j x t y=some x'→j'≠j→BQ r j' x' =BQ r j' x
 | .cons c r,0,j',x,t,y,x',e,hj=>by
  simp only[D_]at e;split at e
  ·rename_i h
   subst h;simp only[AM7]at e;subst e;cases j' with
   |zero=>omega
   |succ j' =>rfl
  simp_all
 | .cons c r,j+1,j',x,t,y,x',e,hj=>by
  simp only[D_,AM9]at e;obtain⟨z,e1,rfl⟩:=e;cases j' with
  |zero=>rfl
  |succ j' =>
   simp only[BQ];exact Xx e1 (by omega)
 | .unit,_,_,_,_,_,_,e,_=>by rfl
 | .int k,0,j',x,t,y,x',e,hj=>by cases j' with
  |zero=>omega
  |succ j' =>rfl
 | .bool,0,j',x,t,y,x',e,hj=>by cases j' with
  |zero=>omega
  |succ j' =>rfl
 | .str,0,j',x,t,y,x',e,hj=>by cases j' with
  |zero=>omega
  |succ j' =>rfl
 | .sl _,0,j',x,t,y,x',e,hj=>by cases j' with
  |zero=>omega
  |succ j' =>rfl
 | .int _,_+1,_,_,_,_,_,e,_=>by simp[D_]at e
 | .bool,_+1,_,_,_,_,_,e,_=>by simp[D_]at e
 | .str,_+1,_,_,_,_,_,e,_=>by simp[D_]at e
 | .sl _,_+1,_,_,_,_,_,e,_=>by simp[D_]at e
theorem VU:∀{r:Ty} {j:Nat} {x:r.D} {t:Ty} {y:t.D} {x':r.D},D_ r j x t y=some x'→BQ r j x' =some ⟨t,y⟩∧ ∃y0:t.D,BQ r j x=some ⟨t,y0⟩
 | .cons c r,0,x,t,y,x',e=>by
  simp only[D_]at e;split at e
  ·rename_i h
   subst h;simp only[AM7]at e;subst e;exact⟨rfl,_,rfl⟩
  simp_all
 | .cons c r,j+1,x,t,y,x',e=>by
  simp only[D_,AM9]at e;obtain⟨z,e1,rfl⟩:=e;simp only[BQ];exact VU e1
 | .unit,_,_,_,_,_,e=>by simp[D_]at e
 | .int k,0,x,t,y,x',e=>by
  simp only[D_]at e;split at e
  ·rename_i h;subst h;cases e;exact⟨rfl,_,rfl⟩
  simp_all
 | .bool,0,x,t,y,x',e=>by
  simp only[D_]at e;split at e
  ·rename_i h;subst h;cases e;exact⟨rfl,_,rfl⟩
  simp_all
 | .str,0,x,t,y,x',e=>by
  simp only[D_]at e;split at e
  ·rename_i h;subst h;cases e;exact⟨rfl,_,rfl⟩
  simp_all
 | .sl _,0,x,t,y,x',e=>by
  simp only[D_]at e;split at e
  ·rename_i h;subst h;cases e;exact⟨rfl,_,rfl⟩
  simp_all
 | .int _,_+1,_,_,_,_,e=>by simp[D_]at e
 | .bool,_+1,_,_,_,_,e=>by simp[D_]at e
 | .str,_+1,_,_,_,_,e=>by simp[D_]at e
 | .sl _,_+1,_,_,_,_,e=>by simp[D_]at e
theorem mq{r:Ty}{rows:List r.D}{i k:Nat}{x:r.D}(hi:i<rows.length):rowAt r (rows.set i x) k=if k=i then x else rowAt r rows k:=by
 unfold rowAt;grind
theorem pv:∀{p:List nS} {r:Ty} {rows C2:List r.D} {q:Ty} {ys wI:List q.D},HF r rows p=some ⟨q,ys⟩→wI.length=ys.length→rA r rows p q wI=some C2→C2.length=rows.length
 |[],r,rows,C2,q,ys,wI,h1,h2,h3=>by
  simp only[HF,AM7,AN9]at h1;obtain⟨rfl,h1⟩:=h1;obtain rfl:=ASN h1;simp only[rA,AYX,SB,AM7]at h3;simp_all
 |s::p,r,rows,C2,q,ys,wI,h1,h2,h3=>by
  simp only[rA]at h3;split at h3
  ·simp only[ANL,AM9]at h3
   grind
  simp_all
theorem nQ{t:Ty}(ht:t.scalar=true){y:t.D}{q:Ty}{i j:Nat}:∀{p':List nS} {r:Ty} {rows C2:List r.D} {p:List nS} {ys:List q.D} {bE:q.D},DD r rows p→HF r rows p=some ⟨q,ys⟩→i<ys.length→
  D_ q j (rowAt q ys i) t y=some bE→rA r rows p q (ys.set i bE)=some C2→DD r rows p'→ ∀q' zs,HF r rows p' =some ⟨q',zs⟩→
   DD r C2 p'∧ ∃zs',HF r C2 p' =some ⟨q',zs'⟩∧List.length zs' =List.length zs
 |[],r,rows,C2,p,ys,bE,_,hg,hi,hc,hs,_,q',zs,w6=>by
  simp only[HF,AM7,AN9]at w6;obtain⟨rfl,w6⟩:=w6;obtain rfl:=ASN w6;exact⟨by simp[DD],C2,by rfl,pv hg (by simp) hs⟩
 |s'::p',r,rows,C2,p,ys,bE,hp,hg,hi,hc,hs,hp',q',zs,w6=>by
  have hlen:=pv hg (by simp) hs;simp only[DD]at hp'⊢;obtain⟨g1,g2,g3⟩:=hp';simp only[HF]at w6⊢;split at w6
  case h_2=>cases w6
  rename_i q0 x0 jE;rw[jE]at g3;dsimp only at g3;have key:∃x1,BQ r s'.j (rowAt r C2 s'.i)=some ⟨.sl q0,x1⟩∧DD q0 x1 p'∧ ∃zs',HF q0 x1 p' =some ⟨q',zs'⟩∧List.length zs' =List.length zs:=by
   have same:BQ r s'.j (rowAt r C2 s'.i)=some ⟨.sl q0,x0⟩→ ∃x1,BQ r s'.j (rowAt r C2 s'.i)=some ⟨.sl q0,x1⟩∧DD q0 x1 p'∧ ∃zs',HF q0 x1 p' =some ⟨q',zs'⟩∧List.length zs' =List.length zs:=
    fun h=>⟨x0,h,g3,zs,w6,rfl⟩
   cases p with
   |nil=>
    simp only[HF,AM7,AN9]at hg;obtain⟨rfl,hg⟩:=hg;obtain rfl:=ASN hg;simp only[rA,AYX,SB,AM7]at hs;subst hs;apply same;rw[mq hi];split
    ·rename_i e
     subst e;by_cases ej:s'.j=j
     ·obtain⟨_,y0,h0⟩:=VU hc
      rw[ej,h0]at jE;simp only[AM7,AN9]at jE;obtain⟨rfl,_⟩:=jE;simp[Ty.scalar]at ht
     grind[Xx]
    omega
   |cons s p=>
    simp only[DD]at hp;obtain⟨k1,k2,k3⟩:=hp;simp only[HF]at hg;split at hg
    case h_2=>cases hg
    rename_i r' x hcx;rw[hcx]at k3;dsimp only at k3;simp only[rA,hcx,ANL,AM9]at hs;obtain⟨x',hs1,row2,hs2,rfl⟩:=hs;rw[mq k1];rw[mq k1]at same;split
    ·rename_i e
     rw[AMp e]at same;rw[e]at jE;by_cases ej:s'.j=s.j
     ·rw[ej]at jE⊢
      rw[hcx]at jE;simp only[AM7,AN9,Ty.sl.injEq]at jE;obtain⟨rfl,jE⟩:=jE;obtain rfl:=ASN jE;obtain⟨m1,m2⟩:=nQ ht k3 hg hi hc hs1 g3 q' zs w6;grind[VU]
     grind[Xx]
    simp_all
  grind
theorem uZ{w w':World}{B:Nat→Prop}(bM:∀A,w'.cell? A=w.cell? A∨ ∃v,w'.cell? A=some v∧isSlice v=false):∀{p:List nS} {r:Ty} {h:Value} {rows:List r.D} {hh:Value},
  Rd w' B (.sl r) [h] rows→DD r rows p→JB w h p=some hh→JB w' h p=some hh
 |[],_,h,_,hh,_,_,e=>by grind[C8]
 |s::p,r,h,rows,hh,hr,hp,e=>by
  simp only[DD]at hp;obtain⟨hi,P9,hp⟩:=hp;simp only[Rd]at hr;obtain⟨a,cap,e1,_,hr⟩:=hr;obtain rfl:=(List.cons.inj e1).1;rcases hr with hr|⟨b,o,rfl,hb,hr⟩
  ·omega
  obtain⟨cs,hl,hc,hrow⟩:=hr s.i _ (R_ hi);split at hp
  case h_2=>exact hp.elim
  rename_i q x jE;obtain⟨v,hv,hrv⟩:=fq hrow jE;have hcv:=hc _ _ hv;rw[←P9]at hcv;simp only[JB]at e⊢;split at e
  case h_2=>cases e
  rename_i v0 hv0;rcases bM ⟨b,o+s.i*s.sz+s.j,none⟩with h1|⟨u,h1,h2⟩
  ·rw[h1,hv0]
   rw[h1,hv0]at hcv;cases hcv;exact uZ bM hrv hp e
  ·rw[hcv]at h1
   cases h1;simp only[Rd]at hrv;obtain⟨_,_,e2,_⟩:=hrv;simp only[AQ_,AUD]at e2;grind[isSlice]
theorem AGa{E E':Env}{w w':World}{vw vw':List Bx}{b d d':Nat}{r:Ty}{rows C2:List r.D}(k:Tp E w vw E' w' (vw'.set b .dead))(hb:vw[b]? =some (.sl d r rows))(hb':vw'[b]? =some (.sl d' r C2))(hl:C2.length=rows.length)
  (hh:E'.IE b=E.IE b) {x:AV} {v:Value} (h:VR E w vw x v):VR E' w' vw' (Jy b x) v:=by
 have h1:=Gd k h;have fm:∀{b'},b'≠b→(vw'.set b .dead)[b']? =vw'[b']?:=fun e=>AT4 (fun h=>e h.symm)
 cases x with
 |v t x=>exact h1
 |sl s r x=>exact h1
 |nil=>exact h1
 |Ip c j=>exact⟨by simpa using h1.1,h1.2⟩
 |P8 s r x j=>exact h1
 |fn f Ki=>exact⟨fun c hc=>by simpa using h1.1 c hc,h1.2⟩
 |sB f rows=>exact h1
 |zg=>exact h1
 |undef=>trivial
 |ref c p=>
  cases p with
  |nil=>
   simp only[Jy];by_cases e:c=b
   ·subst e
    simp only[VR,hb,hb']at h⊢;refine⟨h.1,by simp[DD],⟨_,rfl⟩,?_⟩;grind[C8]
   grind[VR]
  |cons s p=>
   grind[Jy,VR]
 |win c p off n=>
  cases p with
  |nil=>
   simp only[Jy];by_cases e:c=b
   ·subst e
    simp only[VR,hb,hb']at h⊢;obtain⟨h0,_,q,ys,a,len,cap,e1,e2,e3,e4⟩:=h;simp only[HF,AM7,AN9]at e1;obtain⟨rfl,e1⟩:=e1;obtain rfl:=ASN e1;refine⟨h0,by simp[DD],r,C2,a,len,cap,rfl,by omega,?_,e4⟩;grind[C8]
   grind[VR]
  |cons s p=>
   grind[Jy,VR]
 |Jk c p i sz j=>
  cases p with
  |nil=>
   simp only[Jy];by_cases e:c=b
   ·subst e
    simp only[VR,hb,hb']at h⊢;obtain⟨h0,_,q,ys,bb,o,len,cap,e1,e2,e3,e4⟩:=h;simp only[HF,AM7,AN9]at e1;obtain⟨rfl,e1⟩:=e1;obtain rfl:=ASN e1;refine⟨h0,by simp[DD],r,C2,bb,o,len,cap,rfl,by omega,?_,e4⟩;grind[C8]
   grind[VR]
  |cons s p=>
   grind[Jy,VR]
theorem ADm{E E':Env}{w w':World}{vw vw':List Bx}{b:Nat}(k:∀x v,VR E w vw x v→VR E' w' vw' (Jy b x) v){x:XV}{v:Value}(h:XR E w vw x v):XR E' w' vw' (uj b x) v:=by
 cases x with
 |c x=>exact k x v h
 |agg l=>
  obtain⟨vs,rfl,Vu⟩:=h;exact⟨vs,rfl,CY.MG _ k Vu⟩
 |Nb l=>
  obtain⟨vs,rfl,Vu⟩:=h;refine⟨vs,rfl,CY.MG _ (fun x v hx=> ?_) Vu⟩;cases x with
  |inl x=>exact k x v hx
  |inr q=>
   obtain⟨us,rfl,hus⟩:=hx;exact⟨us,rfl,CY.MG _ k hus⟩
end Go.Fw
end
section
namespace Go.Fw
theorem qQ{w:World}{vw:List Bx}{E:Env}{bx:List Bx}{G:ABa}(h:C7 E w vw bx G)(hw:Fa bx vw){d:Nat}(hd:1≤d){q:Ty}{old:q.D}{j:Nat}{x:XV}{v:Value}(hv:XR E w vw x v){bE:q.D}{Q7:List Bx}{d':Nat}
  (e:qx d q old j x bx=some (bE,Q7,d')):1≤d'∧d'≤d∧ ∃E' F,HM E w vw bx G E' Q7 F∧
   ((j=0∧x.plain=false∧Ow w E'.S (d'-1) q v.cells.toList bE F)∨(∃t y,v.cells.toList=[v]∧Ow w E'.S (d'-1) t [v] y F∧D_ q j old t y=some bE∧(x.plain=true→t.scalar=true∧isSlice v=false))):=by
 unfold qx at e;split at e
 ·rename_i l
  split at e
  case isFalse=>cases e
  rename_i hj;obtain⟨vs,rfl,Vu⟩:=hv;obtain⟨h1,h2,E',F,h3,h4⟩:=Z7 h hw hd Vu e;exact⟨h1,h2,E',F,h3,.inl ⟨hj,rfl,h4⟩⟩
 ·rename_i x
  split at e
  case h_2=>cases e
  rename_i t y0 hc;simp only[ANL,AM9,ARb]at e;obtain⟨⟨y,kt,d1⟩,e1,row,e2,rfl,rfl,rfl⟩:=e;dsimp only at e2;have Zf:VR E w vw x v:=hv;have hk:x.known=true:=by grind[AV.known,eE]
  obtain⟨h1,h2,E',F,h3,h4⟩:=cH h hw hd Zf e1;refine⟨h1,h2,E',F,h3,.inr ⟨t,y,by rw[(uc Zf hk).2],h4,e2,fun hp=> ?_⟩⟩;cases x with
  |v u z=>
   simp only[eE,AM9,ARb]at e1;obtain⟨z',e3,_⟩:=e1;obtain⟨rfl,_⟩:=IK e3;obtain⟨hs,hr⟩:=Zf;refine⟨hs,?_⟩;cases u<;>simp_all[Ty.scalar,Rd]<;>rfl
  |_=>simp[XV.plain]at hp
 simp_all
theorem pj{f:AV→AV}{bx:List Bx}{b d:Nat}{r:Ty}{rows:List r.D}:(bx.set b (.sl d r rows)).map (Bx.map f)=(bx.map (Bx.map f)).set b (.sl d r rows):=by
 rw[List.map_set];rfl
theorem AF8{f:AV→AV}{bx:List Bx}{n d:Nat}{r:Ty}{rows:List r.D}(h:(bx.map (Bx.map f))[n]? =some (.sl d r rows)):bx[n]? =some (.sl d r rows):=by
 rw[ATh,AM9]at h;obtain⟨B,h1,h2⟩:=h;cases B with
 |mem cs=>simp[Bx.map]at h2
 |sl d' r' C2=>rw[h1];exact congrArg some h2
 |dead=>simp[Bx.map]at h2
theorem tz{E:Env}{σ:St}{a:Act}{w:World}(h:Rel E σ a w){b i sz j:Nat}{p:List nS}{va v:Value}(hva:VR E w σ.bx (.Jk b p i sz j) va){x:XV}(hv:XR E w σ.bx x v)(h1c:∀u∈v.cells.toList,u.oneCell' =true)
  {σ':St} (e:hO σ (.c (.Jk b p i sz j)) x=some σ'):
  ∃bb oo E',va= .pointer (some ⟨bb,oo,none⟩)∧w.there bb oo v.cells.toList.length∧Rel E' σ' a (w.setCells bb oo v.cells.toList)∧SC [b] E σ.bx w E' σ'.bx (w.setCells bb oo v.cells.toList)∧σ'.tm.length=σ.tm.length:=by
 simp only[hO]at e;split at e
 case h_2=>cases e
 rename_i d r rows hb;split at e
 case isFalse=>cases e
 rename_i wo;simp only[ANL]at e;obtain⟨⟨q,ys⟩,hg,e⟩:=e;dsimp only at e;split at e
 case isFalse=>cases e
 rename_i P9;simp only[ANL,AM9]at e;obtain⟨⟨bE,bg,d2⟩,e1,C2,e2,e3⟩:=e;dsimp only at e1 e2 e3;have st:=h.bx.st;simp only[VR,hb]at hva;obtain⟨_,hp,q1,ys1,bb,o,len,cap,g1,hi,g3,rfl⟩:=hva;rw[hg]at g1;simp only[AM7,AN9]at g1;obtain⟨rfl,g1⟩:=g1;obtain rfl:=ASN g1;have Hh:=(AM_.1 hb).1;obtain⟨Gb,⟨hd1,ho⟩,hB⟩:=h.bx.take hb;have LH:Fa (σ.bx.set b .dead) σ.bx:=fun n B hn=>by
  grind
 obtain⟨hd2,hd3,E1,Fx,k1,hrow⟩:=qQ hB LH (by omega) hv e1;obtain⟨A,W,pG,ho2⟩:=KG (d:=d2+p.length) (by omega) ho;have Yk:=k1.boxes.perm (G':=(Fx++A)++W++[]) (by
  grind)
 obtain⟨hle,hB3⟩:=Yk.share;simp only[AN6]at hB3
 generalize hE3:({ E1 with S:=fun c=>E1.S c∨c∈W,T:=fun c=>E1.T c∨c∈W }:Env)=E3 at hle hB3
 have p9:Le E E3:=k1.le.trans hle;have ho3:Ow w E3.S (d2+p.length) (.sl r) [E.IE b] rows A:=Eh (fun c hc=>by
  subst hE3;exact hc.imp (k1.le.S c) id) (fun _ _=>rfl) (fun _ _=>rfl) ho2
 obtain⟨h',F1,F2,m1,m2,m3,m4⟩:=rp ho3 hp hg (by omega);rw[g3]at m1;cases m1;obtain⟨m,rfl⟩:∃m,d2=m+1:=⟨d2-1,by omega⟩;rw[show m+1+p.length-p.length=m+1 by omega]at m2 m4;simp only[Nat.add_sub_cancel]at hrow;obtain⟨b1,o1,arr,ty,fr,cs,G,R,n1,n2,n3,n4,n5,n6,n7,n8,n9⟩:=vF m2 hi;simp only[AM7,Addr.mk.injEq,AUD]at n1;obtain⟨rfl,rfl⟩:=n1;subst P9;have hAp:A.Perm (G++(bb::R)++F2):=m3.trans (n8.append_right F2);obtain⟨Fs,hFs1,hFs2⟩:=hB3;have hbA:bb∈A:=hAp.mem_iff.2 (by simp);have dU: ¬E3.T bb:=hFs2.free bb (by simp[hbA]);have AAO: ¬E3.S bb:=fun hc=>dU (hFs2.st bb hc)
 have nd:(Fx++(G++(bb::R)++F2)).Nodup:=(AYE Fx hAp).nodup_iff.1 (AOY.1 hFs2.nodup).2.1;have hnx:bb∉Fx:=fun hc=>(AOY.1 nd).2.2 bb hc bb (by simp) rfl
 have hnG:bb∉G:=fun hc=>(AOY.1 (AOY.1 (AOY.1 nd).2.1).1).2.2 bb hc bb (by simp) rfl
 have hnR:bb∉R:=(AYF.1 (AOY.1 (AOY.1 (AOY.1 nd).2.1).1).2.1).1;have hn2:bb∉F2:=fun hc=>(AOY.1 (AOY.1 nd).2.1).2.2 bb (by simp) bb hc rfl
 have aS:j+v.cells.toList.length≤q.n:=by
  rcases hrow with⟨rfl,_,ho4⟩|⟨t,y,hc1,ho4,VW,_⟩
  ·rw[YD ho4];omega
  ·rw[hc1]
   obtain⟨_,y0,hc0⟩:=VU VW;grind[fk,List.getElem?_eq_some_iff]
 have eg:o+i*q.n+j+v.cells.toList.length≤arr.size:=by omega
 let w':=w.setCells bb (o+i*q.n+j) v.cells.toList
 have fm:∀c,c≠bb→w'.heap[c]? =w.heap[c]?:=fun c hc=>DP _ _ _ _ _ hc
 have uP:∀c,E3.S c→w'.heap[c]? =w.heap[c]?:=fun c hc=>fm c (fun e=>AAO (e▸hc))
 have hb':=Fy v.cells.toList (o+i*q.n+j) w bb arr ty fr n2;have bM:∃ez G' D0,ez.length=q.n∧Bd w' bb (o+i*q.n) ez∧Ow w' E3.S m q ez bE G'∧(Fx++G).Perm (G'++D0):=by
  rcases hrow with⟨rfl,_,ho4⟩|⟨t,y,hc1,ho4,VW,_⟩
  ·refine⟨v.cells.toList,Fx,G,YD ho4,PO n2 eg,Eh (fun c hc=>hle.S c hc) (fun c hc=>fm c (fun e=>AAO (e▸hle.S c hc))) (fun c hc=>fm c (fun e=>hnx (e▸hc))) ho4,AYj _⟩
  ·obtain⟨_,y0,hc0⟩:=VU VW
   obtain⟨u,K1,K2,z1,z2,z3,z4⟩:=fk n7 hc0;have AZA:bb∉K2:=fun hc=>hnG (z3.mem_iff.2 (by simp[hc]))
   obtain⟨F',f1,f2⟩:=z4 w' E3.S v y Fx bE (fun _ hc=>hc) uP (fun c hc=>fm c (fun e=>AZA (e▸hc)))
    (Eh (fun c hc=>hle.S c hc) (fun c hc=>fm c (fun e=>AAO (e▸hle.S c hc))) (fun c hc=>fm c (fun e=>hnx (e▸hc))) ho4) VW
   refine⟨cs.set j v,F',K1,by simp_all,fun x u' hx=> ?_,f2,?_⟩
   ·rw[List.getElem?_set]at hx
    split at hx
    ·rename_i ejx
     subst ejx;split at hx
     ·cases hx
      have:=PO (w:=w) (b:=bb) (o:=o+i*q.n+j) (vs:=v.cells.toList) n2 eg 0 v (by simp_all);omega
     simp_all
    ·rename_i ejx
     have hold:=n6 x u' hx;rw[LI n2]at hold;rw[LI hb',XX eg,AM5 (fun hh=>by grind),hold]
   grind
 obtain⟨ez,G',D0,c1,c2,c3,c4⟩:=bM;obtain⟨pH,f1,f2⟩:=n9 w' E3.S (FT arr (o+i*q.n+j) v.cells.toList) ez bE G' (fun _ hc=>hc) uP (fun c hc=>fm c (fun e=>hnR (e▸hc))) hb' (Ft _ _ _) (fun k hk=>by
  rw[XX eg,AM5 (by omega)]) c1 c2 c3
 obtain⟨F',f3,f4⟩:=m4 w' E3.S (ys.set i bE) pH C2 (fun _ hc=>hc) uP (fun c hc=>fm c (fun e=>hn2 (e▸hc))) f2 e2;have rJ:(Fx++A).Perm (F'++D0):=by
  have p1:F'.Perm (G'++(bb::R)++F2):=f3.trans (f1.append_right F2);refine(AYE Fx hAp).trans (List.Perm.trans ?_ (p1.symm.append_right D0));grind
 have Aeb:bb∈F':=(f3.trans (f1.append_right F2)).mem_iff.2 (by simp);have hB4:C7 E3 w σ.bx bg F':=by
  have:C7 E3 w σ.bx bg (F'++D0):=C7.perm (G:=Fx++A) ⟨Fs,hFs1,hFs2⟩ rJ;exact this.drop
 have qI:bg.length=σ.bx.length:=by rw[k1.len];simp
 have AUr:bg[b]? =some .dead:=by
  obtain⟨B,hB⟩:∃B,bg[b]? =some B:=⟨_,AMt (by omega)⟩;rcases k1.within b B hB with e|e
  all_goals simp_all
 have hrl:C2.length=rows.length:=pv hg (by simp) e2;have kT:∀E0,Le E0 E3→HM E0 w σ.bx σ.bx [] E3 bg (Fx++A):=fun E0 hl=>⟨hl,qI,fun n B hn=>by
  rcases k1.within n B hn with e|e
  all_goals grind,⟨Fs,hFs1,by simp_all⟩⟩
 have oB:∀n,E3.IE n=E.IE n:=fun n=>by rw[p9.IE]
 have hww:∀c,c<w.heap.size→c∉Fx++A→w'.heap[c]? =w.heap[c]?:=fun c _ hc=>fm c (fun e=>hc (by simp_all))
 have base:eQ E w E3 w':=⟨p9.T,p9.S,p9.Tof,p9.Sof,fun c hc=>fm c (fun e=>dU (e▸p9.T c hc)),(B7 _ _ _ _).os,(B7 _ _ _ _).tape,(B7 _ _ _ _).output,(B7 _ _ _ _).size⟩;have finish:∀(f:AV→AV) (g:XV→XV),(∀E0,Le E0 E3→(∀c,E0.S c→E0.T c)→ ∀x v,VR E0 w σ.bx x v→VR E3 w' ((bg.map (Bx.map f)).set b (.sl (m+1+p.length) r C2)) (f x) v)→
   (∀x v,XR E w σ.bx x v→XR E3 w' ((bg.map (Bx.map f)).set b (.sl (m+1+p.length) r C2)) (g x) v)→
   Rel E3 { tm:=σ.tm.map g,bx:=(bg.map (Bx.map f)).set b (.sl (m+1+p.length) r C2) } a w':=by
  intro f g hf hg;refine⟨h.ON,CY.MG _ hg h.tm,?_⟩;have hT:=hB4.AWq (E':=E3) (w':=w') (vw':=(bg.map (Bx.map f)).set b (.sl (m+1+p.length) r C2)) f (hf E3 (Le.refl _) hFs2.st) (fun _ h=>h) (fun _ _=>rfl) (fun _ _=>rfl) (fun c hc _=>fm c (fun e=>by
    simp_all)) (fun F hF=>⟨hF.nodup,hF.free,fun c hc=>by rw[Dd];exact hF.lt c hc,hF.st,fun c hc=>by rw[Dd];exact hF.dr c hc⟩)
  refine C7.put (F:=F') (G:=[]) (by simp_all) (by rw[ATh,AUr];rfl) ⟨by omega,?_⟩;simp_all
 have AXT:∀f:AV→AV,SC [b] E σ.bx w E3 ((bg.map (Bx.map f)).set b (.sl (m+1+p.length) r C2)) w':=fun f=>⟨base,by simp[qI],fun n _=>⟨by rw[p9.ID],oB n⟩,fun n hn=>by
  have sD:n≠b:=fun e=>by simp_all
  have wu:=(AM_.1 hn).1;rw[AT4 (fun e=>sD e.symm),ATh];obtain⟨B,hB⟩:∃B,bg[n]? =some B:=⟨_,AMt (by omega)⟩;have hBd:B= .dead:=by
   rcases(kT E p9).within n B hB with e|e
   all_goals simp_all
  rw[hB,hBd];rfl,fun n B B' sD hB UQ hnd=>by
  simp at sD;have wu:=(AM_.1 hB).1;rw[AT4 (fun e=>sD e.symm),ATh]at UQ;obtain⟨B2,Yk⟩:∃B2,bg[n]? =some B2:=⟨_,AMt (by omega)⟩;rw[Yk]at UQ;have UQ:Bx.map f B2=B':=by simp_all
  have hBB:B2=B:=by
   rcases(kT E p9).within n B2 Yk with e|e
   ·subst e;exact absurd UQ.symm hnd
   simp_all
  subst hBB;refine⟨?_,fun c hc=>fm c (fun e=> ?_)⟩
  ·subst UQ
   cases B2 with
   |mem cs=>trivial
   |sl d r rows=>rfl
   |dead=>exact absurd rfl hnd
  ·have hF:Fs[n]? =some (Fs[n]'(by have:=(AM_.1 Yk).1;rw[hFs1.1];omega)):=AMt _
   have dj:yR E3 w n B2 c:=by
    cases B2 with
    |mem cs=>simp only[yR]at hc⊢;rw[p9.ID];omega
    |sl d r rows=>grind[yR]
    |dead=>exact hc
   rcases fP (hFs1.2 n B2 _ Yk hF) dj with hs|hs
   ·simp_all
   ·exact(AOY.1 hFs2.nodup).2.2 c (AT1.2 ⟨_,APy hF,hs⟩) bb (by simp[hbA]) e⟩
 refine⟨bb,o+i*q.n+j,E3,rfl,VA (k:=0) n2 eg n3,?_,?_,?_⟩
 ·split at e3
  ·rename_i AZz
   have h0:∀E0,Le E0 E3→(∀c,E0.S c→E0.T c)→Tp E0 w σ.bx E3 w' (bg.set b (.sl (m+1+p.length) r C2)):=by
    intro E0 hl st0;refine cq b (kT E0 hl) st0 (by simp[qI]) (fun n d r rows hn _ hq=>by
      grind) (fun _ _=>rfl) (fun _ _=>rfl) rfl rfl hww (fun d0 r0 SG hq=> ?_)
    rw[AUK (by omega)]at hq;simp only[AM7,Bx.sl.injEq]at hq;obtain⟨rfl,rfl,hq⟩:=hq;obtain rfl:=ASN hq;refine⟨d,rows,hb,fun p' hp' q' zs w6=> ?_⟩;rcases hrow with⟨_,hpf,_⟩|⟨t,y,hc1,ho4,VW,hsc⟩
    ·simp_all
    obtain⟨hs1,hs2⟩:=hsc AZz;have hk:=nQ hs1 hp hg hi VW e2 hp' q' zs w6;refine⟨hk.1,hk.2,fun hh hhe=> ?_⟩;rw[oB];rw[←hl.IE,oB]at hhe;refine uZ (fun Ad=> ?_) (YF f4) hk.1 hhe;by_cases eA:Ad.block=bb∧Ad.spot=none∧Ad.off=o+i*q.n+j
    ·right
     obtain⟨ab,ao,asp⟩:=Ad;simp only at eA;rw[eA.1,eA.2.1,eA.2.2];refine⟨v,?_,hs2⟩;have:=PO (w:=w) (b:=bb) (o:=o+i*q.n+j) (vs:=v.cells.toList) n2 eg 0 v (by simp_all);omega
    grind[World.cell?_setCells_out,List.length_cons,List.length_nil]
   have:=finish id id (fun E0 hl st0 x v hx=>by rw[bd];grind[Gd]) (fun x v hx=>by rw[bd];grind[PW]);grind[bd,List.map_id]
  ·have h0:∀E0,Le E0 E3→(∀c,E0.S c→E0.T c)→ ∀x v,VR E0 w σ.bx x v→VR E3 w' ((bg.map (Bx.map (Jy b))).set b (.sl (m+1+p.length) r C2)) (Jy b x) v:=by
    intro E0 hl st0 x v hx;have keep:Tp E0 w σ.bx E3 w' (((bg.map (Bx.map (Jy b))).set b (.sl (m+1+p.length) r C2)).set b .dead):=by
     refine cq b (kT E0 hl) st0 (by simp[qI]) (fun n d r rows hn _ hq=>by
      grind[List.getElem?_set_ne,AF8]) (fun _ _=>rfl) (fun _ _=>rfl) rfl rfl hww (fun d0 r0 SG hq=> ?_)
     simp_all
    exact AGa keep hb (by rw[AUK (by simp_all)]) hrl (by rw[hl.IE]) hx
   have:=finish (Jy b) (uj b) h0 (fun x v hx=>ADm (h0 E p9 st) hx);grind[St.ABE,np,pj]
 ·rw[←e3]
  split
  all_goals grind[id,bd,St.ABE,np,pj]
 grind[St.ABE]
end Go.Fw
end
section
namespace Go.Fw
theorem fV{w w':World}{B B':Nat→Prop}:∀{r:Ty} {cs:List Value} {x:r.D},r.flat=true→Rd w B r cs x→Rd w' B' r cs x
 | .cons c r,cs,x,h,hr=>by
  simp only[Ty.flat,ANB]at h;simp only[Rd]at hr⊢;obtain⟨v,l,rfl,h1,h2⟩:=hr;exact⟨v,l,rfl,fV h.1 h1,fV h.2 h2⟩
 | .unit,_,_,_,hr=>by grind[Rd]
 | .int k,_,_,_,hr=>by grind[Rd]
 | .bool,_,_,_,hr=>by grind[Rd]
 | .str,_,_,_,hr=>by grind[Rd]
 | .sl q,_,_,h,_=>by simp[Ty.flat]at h
theorem fG{w:World}{S:Nat→Prop}{d:Nat}:∀{r:Ty} {cs:List Value} {y:r.D} {F:ABa},r.flat=true→Ow w S d r cs y F→F=[]
 | .int k,_,_,_,_,h=>by grind[Ow]
 | .bool,_,_,_,_,h=>by grind[Ow]
 | .str,_,_,_,_,h=>by grind[Ow]
 | .unit,_,_,_,_,h=>by grind[Ow]
 | .cons c r,_,_,_,hf,h=>by
  simp only[Ty.flat,ANB]at hf;simp only[Ow]at h;obtain⟨v,l,F1,F2,_,rfl,h1,h2⟩:=h;rw[fG hf.1 h1,fG hf.2 h2];rfl
 | .sl q,_,_,_,hf,_=>by simp[Ty.flat]at hf
theorem xO{w w':World}{S S':Nat→Prop}{d d':Nat}{r:Ty}(hr:r.flat=true){cs:List Value}{y:r.D}{F:ABa}(h:Ow w S d r cs y F):F=[]∧cs.length=r.n∧Ow w' S' d' r cs y []:=
 ⟨fG hr h,YD h,jw hr (fV (B':=fun _=>False) hr (YF h))⟩
theorem ke:∀{r:Ty} {j:Nat} {x:r.D} {t:Ty} {y:t.D},r.flat=true→BQ r j x=some ⟨t,y⟩→t.flat=true
 | .cons c r,0,x,t,y,h,e=>by
  simp only[Ty.flat,ANB]at h;simp only[BQ,AM7,AN9]at e;simp_all
 | .cons c r,j+1,x,t,y,h,e=>by
  simp only[Ty.flat,ANB]at h;simp only[BQ]at e;exact ke h.2 e
 | .unit,_,_,_,_,_,e=>by simp[BQ]at e
 | .int k,0,x,t,y,_,e=>by simp only[BQ,AM7,AN9]at e;simp_all
 | .bool,0,x,t,y,_,e=>by simp only[BQ,AM7,AN9]at e;simp_all
 | .str,0,x,t,y,_,e=>by simp only[BQ,AM7,AN9]at e;simp_all
 | .sl _,_,_,_,_,h,_=>by simp[Ty.flat]at h
 | .int _,_+1,_,_,_,_,e=>by simp[BQ]at e
 | .bool,_+1,_,_,_,_,e=>by simp[BQ]at e
 | .str,_+1,_,_,_,_,e=>by simp[BQ]at e
theorem ACK{r:Ty}(hr:r.flat=true){rows:List r.D}:∀{p:List nS},DD r rows p→p=[]
 |[],_=>rfl
 |s::p,h=>by
  simp only[DD]at h;obtain⟨_,_,h⟩:=h;exfalso;cases hc:BQ r s.j (rowAt r rows s.i)with
  |none=>simp_all
  |some tx=>
   obtain⟨t,x⟩:=tx;have hf:=ke hr hc;grind[Ty.flat]
theorem flatten_nil{l:List ABa}(h:∀x∈l,x=[]):l.flatten=[]:=by
 simp_all;omega
theorem ABh{E:Env}{σ:St}{a:Act}{w:World}(h:Rel E σ a w){b d off n:Nat}{r:Ty}{rows:List r.D}(hb:σ.bx[b]? =some (.sl d r rows))(hr:r.flat=true)(hgd:r.vK=true)(hk:0<r.n)(hl:off+n≤rows.length)(hn:0<n):
  ∃bb o cap,E.IE b= .slice (some ⟨bb,o,none⟩) rows.length cap∧rows.length≤cap∧w.there bb (o+off*r.n) (n*r.n)∧
   Rel E { σ with bx:=σ.bx.set b (.sl d r ((rows.take off++List.replicate n r.z)++rows.drop (off+n))) } a (w.setCells bb (o+off*r.n) (List.replicate n (Ew r)).flatten)∧
   SC [b] E σ.bx w E (σ.bx.set b (.sl d r ((rows.take off++List.replicate n r.z)++rows.drop (off+n)))) (w.setCells bb (o+off*r.n) (List.replicate n (Ew r)).flatten):=by
 have st:=h.bx.st;obtain⟨F,⟨hd,ho⟩,hB⟩:=h.bx.take hb;simp only[AN6]at hB;have Hh:=(AM_.1 hb).1;obtain⟨d',rfl⟩:∃m,d=m+1:=⟨d-1,by omega⟩;simp only[Ow]at ho;obtain⟨ad,cap,hh,y9,ho⟩:=ho;simp only[AQ_,AUD]at hh;rcases ho with⟨rfl,_⟩|⟨bb,o,arr,ty,fr,Fs,rfl,ha,P9,hu,rfl,hFl,da⟩
 ·omega
 have hFn:List.flatten Fs=[]:=flatten_nil fun x hx=>by
  obtain⟨i,hi,hxi⟩:=AT2 hx;obtain⟨cs,_,_,h3⟩:=da i (rows[i]'(by omega)) x (AMt _) (by grind);exact(xO (w':=w) (S':=E.S) (d':=0) hr h3).1
 rw[hFn]at hB;have hzl:(Ew r).length=r.n:=G5 r;have hvl:((List.replicate n (Ew r)).flatten).length=n*r.n:=by simp_all
 have hm1:(off+n)*r.n≤cap*r.n:=AP0 _ (by omega);have hm2:(off+n)*r.n=off*r.n+n*r.n:=AUV ..;have eg:o+off*r.n+((List.replicate n (Ew r)).flatten).length≤arr.size:=by omega
 generalize Vu:(List.replicate n (Ew r)).flatten=vs at hvl eg
 refine⟨bb,o,cap,hh,y9,VA ha (by omega) hu,?_⟩;have dU: ¬E.T bb:=hB.AEV _ (by simp);have hB0:=hB;have fm:∀c,c≠bb→(w.setCells bb (o+off*r.n) vs).heap[c]? =w.heap[c]?:=fun c hc=>DP _ _ _ _ _ hc
 have hw:∀c,c<w.heap.size→c∉[bb]→(w.setCells bb (o+off*r.n) vs).heap[c]? =w.heap[c]?:=fun c _ hc=>fm c (by simp_all)
 have kT:HM E w σ.bx σ.bx [] E (σ.bx.set b .dead) [bb]:=⟨Le.refl _,by simp,fun n B hn=>by
  grind,by simp_all⟩
 generalize AOA:(rows.take off++List.replicate n r.z)++rows.drop (off+n)=C2
 have AWT:C2.length=rows.length:=by
  grind
 have keep:Tp E w σ.bx E (w.setCells bb (o+off*r.n) vs) (σ.bx.set b (.sl (d'+1) r C2)):=cq b kT st (by simp) (fun n d r rows hn _ hq=>by
   grind) (fun _ _=>rfl) (fun _ _=>rfl) rfl rfl hw (fun d1 r1 ANS hq=>by
   rw[AUK Hh]at hq;simp only[AM7,Bx.sl.injEq]at hq;obtain⟨rfl,rfl,hq⟩:=hq;obtain rfl:=ASN hq;refine⟨d'+1,rows,hb,fun p hp q ys hg=> ?_⟩;obtain rfl:=ACK hr hp;simp only[HF,AM7,AN9]at hg;obtain⟨rfl,hg⟩:=hg;obtain rfl:=ASN hg;exact⟨by simp[DD],⟨C2,by rfl,AWT⟩,fun h' hh' =>hh'⟩)
 refine⟨⟨h.ON,h.tm.imp fun _ _ hq=>PW keep hq,?_⟩,⟨⟨fun _ h=>h,fun _ h=>h,fun _ h=> .inl h,fun _ h=> .inl h,fun c hc=>fm c (fun e=>dU (e▸hc)),(B7 _ _ _ _).os,(B7 _ _ _ _).tape,(B7 _ _ _ _).output,(B7 _ _ _ _).size⟩,by simp,fun _ _=>⟨rfl,rfl⟩,fun n hn=>by
  grind,fun n B B' sD hB UQ hnd=>by
  simp at sD;rw[AT4 (fun e=>sD e.symm),hB]at UQ;cases UQ;refine⟨WM.refl hnd,fun c hc=>fm c (fun e=> ?_)⟩;obtain⟨Fs,⟨f1,f2⟩,f3⟩:=hB0;have Yk:(σ.bx.set b .dead)[n]? =some B:=by grind
  have hF:Fs[n]? =some (Fs[n]'(by grind)):=AMt _;rcases fP (f2 n B _ Yk hF) hc with hs|hs
  ·simp_all
  ·exact(AOY.1 f3.nodup).2.2 c (AT1.2 ⟨_,APy hF,hs⟩) bb (by simp) e⟩⟩
 have hT:=hB.turn (E':=E) (w':=w.setCells bb (o+off*r.n) vs) (vw':=σ.bx.set b (.sl (d'+1) r C2)) (fun x v hq=>Gd keep hq) (fun _ h=>h) (fun _ _=>rfl) (fun _ _=>rfl) (fun c hc _=>fm c (fun e=>by
   simp_all)) (fun F hF=>⟨hF.nodup,hF.free,fun c hc=>by rw[Dd];exact hF.lt c hc,hF.st,fun c hc=>by rw[Dd];exact hF.dr c hc⟩)
 have AGY:qy E (w.setCells bb (o+off*r.n) vs) (σ.bx.set b (.sl (d'+1) r C2)) b (.sl (d'+1) r C2) [bb]:=by
  refine⟨hd,?_⟩;simp only[Ow];refine⟨_,cap,by simp_all,by omega,.inr ⟨bb,o,FT arr (o+off*r.n) vs,ty,fr,List.replicate C2.length [],rfl,Fy _ _ _ _ _ _ _ ha,by rw[Ft];omega,by rw[Ft];omega,by simp,by simp,fun i y G hy hG=> ?_⟩⟩;have hG':G=[]:=AUj (APy hG);subst hG';have hil:i<rows.length:=by grind
  by_cases U2:off≤i∧i<off+n
  ·have hyz:y=r.z:=by
    grind
   subst hyz;refine⟨Ew r,hzl,fun j v hj=> ?_,fg hgd⟩;have yU:j<r.n:=by grind
   have e1:(i-off)*r.n=i*r.n-off*r.n:=AXX ..;have e2:off*r.n≤i*r.n:=AP0 _ U2.1;have e3:(i-off+1)*r.n≤n*r.n:=AP0 _ (by omega);rw[AUV,Nat.one_mul]at e3;have:=PO ha eg ((i-off)*r.n+j) v (by
    grind[Nw,Nat.mul_comm,Nat.mul_add_mod,Nat.mod_eq_of_lt])
   grind
  ·have hyo:rows[i]? =some y:=by
    rw[←AOA]at hy;by_cases h1:i<off
    ·grind
    grind[List.getElem?_append_right]
   obtain⟨cs,c1,c2,c3⟩:=da i y (Fs[i]'(by omega)) hyo (AMt _);obtain⟨_,c4,c5⟩:=xO (w':=w.setCells bb (o+off*r.n) vs) (S':=E.S) (d':=d') hr c3;refine⟨cs,c4,U8 c2 ha eg (.inr ?_),c5⟩;by_cases h1:i<off
   ·have:(i+1)*r.n≤off*r.n:=AP0 _ h1
    grind
   grind
 have:=C7.put (b:=b) (B:= .sl (d'+1) r C2) (F:=[bb]) (G:=[]) (by simpa using hT) (by simp_all) AGY;simp_all
section
variable{Y:Type} {P:Program} {T:Jw} (hT:E5 P T) {o:Oper} {E:Env} {σ:St} {a:Act} {w:World} {k:K Y} {y:Y}
include hT
theorem yz(h:Rel E σ a w){c:Call}{x:XV}(ho:o.op= .call c)(hc:c.callee= .builtin .clear)(Ih:c.args.toList.map σ.ev=[x])(e:lp T c.argTypes σ x k=some y)
  (Aa0:∀b p off n,x= .c (.win b p off n)→Kz (fun _=>none) σ o.op=[b]):∃v w' E' xv σ',((execOp a.eval o).run P w= .ok (.value v) w'∨((execOp a.eval o).run P w= .ok .skip w'∧v=undef))∧Rel E' σ' a w'∧XR E' w' σ'.bx xv v∧
   SC (Kz (fun _=>none) σ o.op) E σ.bx w E' σ'.bx w'∧σ'.tm.length=σ.tm.length∧k xv σ' =some y:=by
 obtain⟨o1,hargs',rfl⟩:=Yd Ih;have aa:=h.ev o1;unfold lp at e;split at e
 case h_2=>cases e
 rename_i t b off n ht hx;rw[hx]at aa;rw[Aa0 b [] off n hx];split at e
 case h_2=>cases e
 rename_i d r rows hb;split at e
 case isFalse=>cases e
 rename_i VO;rw[ANB]at VO;obtain⟨VO,hr⟩:=VO;rw[ANB,ANo]at hr;obtain⟨hr,hk⟩:=hr;obtain⟨el,ti,hu,VI,hs,hby,hrow⟩:=K4 hT VO;obtain⟨i,z,i1,i2,i3,i4,i5,hg⟩:=Xe hT VI hrow;have aw:VR E w σ.bx (.win b [] off n) (a.eval o1):=aa;simp only[VR,hb]at aw;obtain⟨_,_,q,ys,ad,len,cap,hgp,hl,hh,hv⟩:=aw;simp only[HF,AM7,AN9]at hgp;obtain⟨rfl,hgp⟩:=hgp;obtain rfl:=ASN hgp;simp only[JB,AM7]at hh;by_cases hn:n=0
 ·subst hn
  have AWX:(rows.take off++List.replicate 0 r.z)++rows.drop (off+0)=rows:=by simp
  rw[AWX]at e;have VW:σ.bx.set b (.sl d r rows)=σ.bx:=by
   apply AXF;grind
  rw[VW]at e;refine⟨.tuple #[],w,E,.c .undef,σ,.inl ?_,h,trivial,SC.refl _ _ _ _,rfl,e⟩;have hz:∃a' c',a.eval o1= .slice a' 0 c':=⟨_,_,by rw[hv];rfl⟩;obtain⟨a',c',hz⟩:=hz;simp only[execOp,ho,resolve,hc,hargs',invoke,builtin,Sem.run_bind,Sem.run_pure,Result.andThen_ok,List.map_toArray,AVt,AYM,Builtin.clear_,ht,hz];cases a'<;>simp[Bb hu]
 ·obtain⟨bb,oo,cap',g1,g2,g3,g4,g5⟩:=ABh h (d:=d) hb hr hg hk hl (by omega)
  rw[g1]at hh;simp only[Value.slice.injEq]at hh;obtain⟨rfl,rfl,rfl⟩:=hh;have Zf:a.eval o1= .slice (some ⟨bb,oo+off*r.n,none⟩) n (cap'-off):=by
   rw[hv];unfold WL;rw[AM5 (by omega)];simp[Addr.add]
  refine⟨.tuple #[],_,E,.c .undef,_,.inl ?_,g4,trivial,g5,rfl,e⟩;have hz:(Builtin.zeroCells z.cells n).toList=(List.replicate n (Ew r)).flatten:=by
   grind[Builtin.zeroCells,Ew,XI,G5]
  have h1:∀v∈(List.replicate n (Ew r)).flatten,v.oneCell' =true:=fun v hv=>by
   obtain⟨l,hl1,wH⟩:=AT1.1 hv;rw[AUj hl1]at wH;exact k_ (w:=w) (S:=E.S) (d:=0) (fg hg) v wH
  have hvl:((List.replicate n (Ew r)).flatten).length=n*r.n:=by rw[HJ,G5]
  have pE:=run_storeCells_cells (P:=P) bb (oo+off*r.n) (List.replicate n (Ew r)).flatten 0 w (fun j hj=>by simpa using(g3 j (by omega)).1) (fun j hj=>by simpa using(g3 j (by omega)).2) h1;rw[AVe]at pE;obtain⟨n',rfl⟩:∃n',n=n'+1:=⟨n-1,by omega⟩;simp only[execOp,ho,resolve,hc,hargs',invoke,builtin,Sem.run_bind,Sem.run_pure,Result.andThen_ok,List.map_toArray,AVt,AYM,Builtin.clear_,ht,Zf];simp[Bb hu,zeroValue,typeInfo,i1,i4,hz,pE]
end
end Go.Fw
end
section
namespace Go.Fw
theorem ra{E:Env}{w:World}{vw:List Bx}:∀{l:List XV} {bs:ABa} {vs:List Value},xU l=some bs→CY (XR E w vw) l vs→(∀b∈bs,b<vw.length)∧vs=bs.map fun b=>Value.pointer (some ⟨E.ID b,0,none⟩)
 |[],bs,vs,e,h=>by
  simp only[xU,AM7]at e;subst e;cases vs with
  |nil=>simp_all
  |cons _ _=>exact h.elim
 |x::l,bs,vs,e,h=>by
  unfold xU at e;split at e
  ·simp_all
  ·rename_i b l' heq
   cases heq;simp only[AM9]at e;obtain⟨r,e1,rfl⟩:=e;cases vs with
   |nil=>exact h.elim
   |cons v vs=>
    obtain⟨h1,h2⟩:=h;obtain⟨k1,k2⟩:=ra e1 h2;obtain⟨h3,h4⟩:b<vw.length∧v= .pointer (some ⟨E.ID b,0,none⟩):=h1;simp_all
  simp_all
theorem evs{E:Env}{σ:St}{a:Act}{w:World}(h:Rel E σ a w):∀l:List Operand,CY (XR E w σ.bx) (l.map σ.ev) (l.map a.eval)
 |[]=>trivial
 |x::l=>⟨h.ev x,evs h l⟩
theorem AAo{E:Env}{σ:St}{a:Act}{w:World}(h:Rel E σ a w):∀o:Option Operand,OR E w σ.bx (o.map σ.ev) (o.map a.eval)
 |none=>trivial
 |some x=>h.ev x
theorem xh{w:World}{S:Nat→Prop}:∀{p:List nS} {d:Nat} {r:Ty} {h:Value} {rows:List r.D} {F:ABa} {q:Ty} {ys:List q.D} {v:Value},Ow w S d (.sl r) [h] rows F→DD r rows p→
  HF r rows p=some ⟨q,ys⟩→d≤p.length→JB w h p=some v→Rd w S (.sl q) [v] ys
 |p,0,r,h,rows,F,q,ys,v,ho,hp,hg,_,hv=>by
  simp only[Ow]at ho;obtain⟨h',k,hr⟩:=pJ ho.1 hp hg;simp_all
 |[],d+1,r,h,rows,F,q,ys,v,ho,hp,hg,hd,hv=>by simp_all
 |s::p,d+1,r,h,rows,F,q,ys,v,ho,hp,hg,hd,hv=>by
  simp only[DD]at hp;obtain⟨hi,P9,hp⟩:=hp;simp only[HF]at hg;obtain⟨a,len,cap,rfl⟩:∃a len cap,h= .slice a len cap:=by
   have:=ho;simp only[Ow]at this;grind
  split at hg
  case h_2=>cases hg
  rename_i q' x' jE;rw[jE]at hp;obtain⟨b,o,arr,ty,fr,cs,G,R,rfl,hb,hu,hbd,c1,c2,c3,rJ,hback⟩:=vF ho hi;obtain⟨u,A1,A2,k1,k2,k3,k4⟩:=fk c3 jE;simp only[JB]at hv;rw[P9,c2 _ _ k1]at hv;exact xh k2 hp hg (by simp_all) hv
theorem yi{E:Env}{σ:St}{a:Act}{w:World}(h:Rel E σ a w){b i sz j:Nat}{p:List nS}{va v:Value}(hva:VR E w σ.bx (.Jk b p i sz j) va){x:XV}(hv:XR E w σ.bx x v)(h1c:∀u∈v.cells.toList,u.oneCell' =true)
  {σ':St} (e:Mb σ (.c (.Jk b p i sz j)) x=some σ'):
  ∃bb oo E',va= .pointer (some ⟨bb,oo,none⟩)∧w.there bb oo v.cells.toList.length∧Rel E' σ' a (w.setCells bb oo v.cells.toList)∧SC [b] E σ.bx w E' σ'.bx (w.setCells bb oo v.cells.toList)∧σ'.tm.length=σ.tm.length:=by
 unfold Mb bI at e;split at e
 ·rename_i b0 _ _ _ _ b' s p' off n heq
  cases heq;split at e
  case isFalse=>cases e
  rename_i hbb;subst hbb;split at e
  case h_2=>cases e
  rename_i d r rows hb;simp only[ANL,AM9]at e;obtain⟨q,⟨⟨q0,ys⟩,hg,rfl⟩,e⟩:=e;dsimp only at e;have Hh:=(AM_.1 hb).1;obtain⟨F,⟨hd1,ho⟩,hB⟩:=h.bx.take hb;obtain⟨A,W,pF,ho2⟩:=KG (d:=min d (p'.length+1)) (by omega) ho;have Yk:=hB.perm (G':=A++W++[]) (by simp_all);obtain⟨hle,hB3⟩:=Yk.share
  generalize hE1:({ E with S:=fun c=>E.S c∨c∈W,T:=fun c=>E.T c∨c∈W }:Env)=E1 at hle hB3
  have ho3:Ow w E1.S (min d (p'.length+1)) (.sl r) [E1.IE b'] rows A:=by
   rw[hle.IE];grind
  have hB4:=hB3.put (b:=b') (B:= .sl (min d (p'.length+1)) r rows) (by simp_all) ⟨by omega,ho3⟩;rw[AYW]at hB4;have hk:Tp E w σ.bx E1 w (σ.bx.set b' (.sl (min d (p'.length+1)) r rows)):=by
   refine⟨by simp,fun _ _=>by rw[hle.ID],hle.T,hle.S,h.bx.st,fun _ _=>rfl,fun c d' r' C2 hc e=> ?_⟩;by_cases hcb:b' =c
   ·subst hcb
    rw[AUK Hh]at e;simp only[AM7,Bx.sl.injEq]at e;obtain⟨rfl,rfl,e⟩:=e;obtain rfl:=ASN e;exact⟨d,rows,hb,fun p hp q ys hg=>⟨hp,⟨ys,hg,rfl⟩,fun h' hh=>by rw[hle.IE];omega⟩⟩
   ·rw[AT4 hcb]at e
    exact⟨d',C2,e,fun p hp q ys hg=>⟨hp,⟨ys,hg,rfl⟩,fun h' hh=>by rw[hle.IE];omega⟩⟩
  have aa:VR E w σ.bx (.win b' (s::p') off n) v:=hv;have aw:XR E1 w (σ.bx.set b' (.sl (min d (p'.length+1)) r rows)) (.c (.sl true q0 ((ys.drop off).take n))) v:=by
   simp only[VR,hb]at aa;obtain⟨_,hp,q1,ys1,a1,len,cap,g1,g2,g3,rfl⟩:=aa;rw[hg]at g1;simp only[AM7,AN9]at g1;obtain⟨rfl,g1⟩:=g1;obtain rfl:=ASN g1;have:=xh ho3 hp hg (by grind) (by rw[hle.IE];omega);exact zK this g2
  have hr:Rel E1 { σ with bx:=σ.bx.set b' (.sl (min d (p'.length+1)) r rows) } a w:=
   ⟨h.ON,h.tm.imp fun _ _ hx=>PW hk hx,hB4.turn (E':=E1) (w':=w) (fun _ _ hv=>Gd ⟨by simp,fun _ _=>rfl,fun _ h=>h,fun _ h=>h,hB3.st,fun _ _=>rfl,fun c d' r' C2 hc e=>by
    grind⟩ hv) (fun _ h=>h) (fun _ _=>rfl) (fun _ _=>rfl) (fun _ _ _=>rfl) fun F hF=>hF⟩
  obtain⟨bb,oo,E',q1,q2,q3,q4,q5⟩:=tz hr (Gd hk hva) aw h1c e;refine⟨bb,oo,E',q1,q2,q3,⟨(hle.base w).trans q4.base,by simpa using q4.len,fun c hc=> ?_,fun c hc=> ?_,fun c B B' hct hB UQ hd=> ?_⟩,q5⟩
  ·have:=q4.ids c (by simp_all)
   exact⟨this.1.trans (by rw[hle.ID]),this.2.trans (by rw[hle.IE])⟩
  ·refine q4.dead c ?_
   grind
  ·have hcb:b'≠c:=fun e=>hct (by simp[e])
   obtain⟨f1,f2⟩:=q4.frame c B B' hct (by simp_all) UQ hd;refine⟨f1,fun c' dj=>f2 c' ?_⟩;cases B with
   |mem cs=>exact dj.trans (by rw[hle.ID])
   |sl d0 r0 SG=>simp only[yR]at dj⊢;rw[hle.IE];omega
   |dead=>exact dj
 grind[tz]
def qd:Op→Bool
 | .call { callee:= .value _,.. }=>true
 |_=>false
section
variable{Y:Type} {P:Program} {T:Jw} (hT:E5 P T) {o:Oper} {E:Env} {σ:St} {a:Act} {w:World} {k:K Y} {y:Y}
include hT
theorem AAK(h:Rel E σ a w){t:TypeId}{oa ox:Operand}(ho:o.op= .store t oa ox){ti:TI}(VI:T.get t=some ti)
  (hc:(σ.ev ox).cells.length=ti.size∧ti.size≠0∧(σ.ev ox).cells.all AV.known=true) {σ':St} (hs:Mb σ (σ.ev oa) (σ.ev ox)=some σ') (e:k (.c .undef) σ' =some y):ME P o E σ a w k y:=by
 obtain⟨c1,c2,c3⟩:=hc;have fT:(σ.ev ox).cells≠[]:=fun hh=>by simp_all
 obtain⟨Vu,h1c⟩:=qm (h.ev ox) c3 fT;have hlen:(a.eval ox).cells.toList.length=ti.size:=by rw[←CY.len Vu];omega
 have hi:(P.info? t).map (·.size)=some (a.eval ox).cells.toList.length:=by grind[E5.size]
 have hva:=h.ev oa;have fin:∀{bb oo:Nat} {E':Env},a.eval oa= .pointer (some ⟨bb,oo,none⟩)→w.there bb oo (a.eval ox).cells.toList.length→Rel E' σ' a (w.setCells bb oo (a.eval ox).cells.toList)→
   SC (Kz (fun _=>none) σ o.op) E σ.bx w E' σ'.bx (w.setCells bb oo (a.eval ox).cells.toList)→σ'.tm.length=σ.tm.length→ME P o E σ a w k y:=by
  intro bb oo E' e1 e2 e3 e4 e5;have hr:=od (P:=P) e2 hi h1c;refine⟨undef,_,E',.c .undef,σ',.inr ⟨?_,rfl⟩,e3,trivial,e4,e5,e⟩;grind[execOp,Sem.run_bind,Result.andThen_ok,Sem.run_pure]
 generalize hxa:σ.ev oa=xa at hs hva
 cases xa with
 |agg l=>simp[Mb,bI,hO]at hs
 |Nb l=>simp[Mb,bI,hO]at hs
 |c x=>
  cases x with
  |Ip b j=>
   simp only[Mb,bI,ANY,hO]at hs;split at hs
   case h_2=>cases hs
   rename_i cs hb;simp only[AM9]at hs;obtain⟨ez,hs,rfl⟩:=hs;have Abp:b<σ.bx.length∧a.eval oa= .pointer (some ⟨E.ID b,j,none⟩):=hva;obtain⟨q1,q2,q3⟩:=AC3 h hb Vu fT hs;exact fin Abp.2 q1 q2 (by grind[Kz]) rfl
  |Jk b p i sz j=>
   obtain⟨bb,oo,E',q1,q2,q3,q4,q5⟩:=yi h hva (h.ev ox) h1c hs;grind[Kz]
  |_=>simp[Mb,bI,hO]at hs
omit hT in
theorem xf(h:Rel E σ a w){x:Operand}(ho:o.op= .assign x)(e:cA σ (σ.ev x) k=some y):ME P o E σ a w k y:=by
 have hr:(execOp a.eval o).run P w= .ok (.value (a.eval x)) w:=by simp only[execOp,ho,Sem.run_pure]
 have hv:=h.ev x;unfold cA at e;split at e
 ·rename_i b off n hx
  rw[hx]at hv;simp only[ANL]at e;obtain⟨⟨r,rows,bx,d⟩,e1,e⟩:=e;dsimp only at e;have Zf:VR E w σ.bx (.win b [] off n) (a.eval x):=hv;obtain⟨hd,F1,F2,k1,ho1⟩:=gR h.bx (Fa.refl _) Zf e1;obtain⟨Fs0,hB1,Yk⟩:=k1.boxes;simp only[AN6]at Yk;have nd:=(AOY.1 (AOY.1 Yk.nodup).2.1).1;obtain⟨r1,r2,r3⟩:=UU h k1 (w':=w) hd ho1 (fun c hc=> .inl (AOt.2 (.inl hc))) nd (fun c hc=>Yk.lt c (by simp[hc])) (fun _ _ _=>rfl) ⟨rfl,rfl,rfl,AQm _⟩;exact⟨_,_,_,_,_,.inl hr,r1,r3,r2.any,rfl,e⟩
 ·exact ME.same h hr hv e
theorem AB8{Γ:Nat→Option Qf}(h:Rel E σ a w)(e:X4 T Γ o σ k=some y)(uO:qd o.op=false):ME P o E σ a w k y:=by
 have same:∀{v:Value} {x:XV},(execOp a.eval o).run P w= .ok (.value v) w→XR E w σ.bx x v→k x σ=some y→ME P o E σ a w k y:=fun h1 h2 h3=>ME.same h h1 h2 h3
 obtain⟨Fs,hB,hS⟩:=h.bx;have st:=hS.st;unfold X4 at e;split at e
 ·rename_i x ho
  exact same (v:=a.eval x) (by grind[execOp,Sem.run_pure]) (h.ev x) e
 ·grind[xf]
 ·rename_i c xa xb ho
  split at e
  case h_2=>cases e
  rename_i p hp;have hc:=h.ev c;rw[hp]at hc;have dj:=TC (E:=E) (w:=w) (vw:=σ.bx) hc;refine same (v:=if p then a.eval xa else a.eval xb) (x:=if p then σ.ev xa else σ.ev xb) (by simp[execOp,ho,dj,asBool]) (by cases p<;>simp[h.ev]) ?_
  grind[AFs]
 ·grind[zB]
 ·grind[AFL]
 ·grind[yt]
 ·grind[o5]
 ·rename_i t x ho
  split at e
  case h_2=>cases e
  rename_i z hz;obtain⟨u,h1,h2⟩:=xT hT hB st hz (h.ev x);grind[execOp,Sem.run_bind,Result.andThen_ok,Sem.run_pure]
 ·grind[AAK]
 ·rename_i x ho
  have hx:=h.ev x;split at e
  ·rename_i b j hp
   rw[hp]at hx;have wF:b<σ.bx.length∧a.eval x= .pointer (some ⟨E.ID b,j,none⟩):=hx;grind[execOp,Sem.run_pure]
  ·rename_i b p i sz j hp
   rw[hp]at hx;have hpt:dP (a.eval x)=true:=hx.1;grind[dP,execOp,Sem.run_pure]
  ·rename_i s r z j hp
   rw[hp]at hx;obtain⟨bb,oo,cs,hv,hrest⟩:=hx;exact same (v:=a.eval x) (x:= .c (.P8 s r z j)) (by grind[execOp,Sem.run_pure]) ⟨bb,oo,cs,hv,hrest⟩ e
  ·rename_i f Ki hp
   rw[hp]at hx;have wF:(∀b∈Ki,b<σ.bx.length)∧a.eval x= .func (.func f) #[] (Ki.map fun b=>Value.pointer (some ⟨E.ID b,0,none⟩)).toArray:=hx;grind[execOp,Sem.run_pure]
  simp_all
 ·rename_i op t x z s ho
  obtain⟨r,val,h1,h2,h3⟩:=iR hT e (h.ev x) (h.ev z) x z;exact same (v:=val) (x:= .c r) (by
   simp only[execOp,ho,Sem.run_bind];simp_all) h3 h1
 ·rename_i op t x ho
  obtain⟨r,val,h1,h2,h3⟩:=mT (P:=P) e (h.ev x);exact same (v:=val) (x:= .c r) (by grind[execOp,Sem.run_bind,Result.andThen_ok,Sem.run_pure]) h3 h1
 ·grind[ACI]
 ·rename_i f first Ki ho
  split at e
  case isFalse=>cases e
  rename_i hf;split at e
  case h_2=>cases e
  rename_i bs hbs;obtain⟨q1,q2⟩:=ra hbs (evs h Ki.toList);have Ac0:first.map a.eval= #[]:=by
   simp_all
  have Ad3:Ki.map a.eval=(bs.map fun b=>Value.pointer (some ⟨E.ID b,0,none⟩)).toArray:=by
   grind
  refine same (v:= .func (.func f) #[] (bs.map fun b=>Value.pointer (some ⟨E.ID b,0,none⟩)).toArray) ?_ (x:= .c (.fn f bs)) ⟨q1,rfl⟩ e
  grind[execOp,Instr.makeFunc,Sem.run_bind,Sem.run_pure,Result.andThen_ok]
 ·grind[ACA]
 ·rename_i t x lo hi ho
  obtain⟨z,val,h1,h2,h3⟩:=jf hT hB st e (h.ev x) (AAo h lo) (AAo h hi);grind[execOp,Sem.run_bind,Result.andThen_ok,Sem.run_pure]
 ·rename_i t x f ho
  split at e
  case h_2=>cases e
  rename_i z hz;obtain⟨u,h1,h2⟩:=kb hT hz (h.ev x);grind[execOp,Sem.run_bind,Result.andThen_ok,Sem.run_pure]
 ·rename_i t x f ho
  split at e
  case h_2=>cases e
  rename_i z hz;obtain⟨u,h1,h2⟩:=nc hT hz (h.ev x);grind[execOp,Sem.run_bind,Result.andThen_ok,Sem.run_pure]
 ·rename_i t x i ho
  obtain⟨z,val,h1,h2,h3⟩:=jP hT hB st e (h.ev x) (h.ev i);grind[execOp,Sem.run_bind,Result.andThen_ok,Sem.run_pure]
 ·rename_i t x i ho
  obtain⟨z,val,h1,h2,h3⟩:=de hT e (h.ev x) (h.ev i);grind[execOp,Sem.run_bind,Result.andThen_ok,Sem.run_pure]
 ·rename_i x i ho
  split at e
  case h_2=>cases e
  rename_i z hz;obtain⟨u,h1,h2⟩:=eo (P:=P) hz (h.ev x);grind[execOp,Sem.run_bind,Result.andThen_ok,Sem.run_pure]
 ·rename_i f args sI ho
  rw[ho]at uO;cases uO
 ·rename_i args sI ho
  split at e
  ·rename_i s t Ih hts
   obtain⟨x,rfl,hx⟩:=Yd Ih;have hv:=h.ev x;rw[hx]at hv;have Zf:=YZ (E:=E) (w:=w) (vw:=σ.bx) hv;split at e
   case isFalse=>cases e
   rename_i hs;have hu:=YT hT hs;refine same (v:= .int .i64 (s.length:Int)) (x:= .c (.v (.int .i64) (s.length:Int))) ?_ (VR.int (E:=E) (vw:=σ.bx) _ _) e
   have P9:(⟨s.toArray⟩:ByteArray).size=s.length:=by rfl
   simp[execOp,ho,resolve,invoke,builtin,Builtin.len_,hts,Zf,Bb hu,goInt,P9]
  ·rename_i z t _ Ih hts
   obtain⟨x,rfl,hx⟩:=Yd Ih;have hv:=h.ev x;rw[hx]at hv;split at e
   case isFalse=>cases e
   rename_i hs;split at e
   case h_2=>cases e
   rename_i n hn;obtain⟨el,hu⟩:=lL hT hs;obtain⟨ad,cap,Zf⟩:=m_ hB st hn hv;refine same (v:= .int .i64 (n:Int)) (x:= .c (.v (.int .i64) (n:Int))) ?_ (VR.int (E:=E) (vw:=σ.bx) _ _) e
   simp[execOp,ho,resolve,invoke,builtin,Builtin.len_,hts,Zf,Bb hu,goInt]
  simp_all
 ·rename_i args sI ho
  split at e
  case h_2=>cases e
  rename_i x1 x2 Ih;exact xI hT h ho rfl Ih e
 ·rename_i args sI ho
  split at e
  case h_2=>cases e
  rename_i x Ih;exact yz hT h ho rfl Ih e (fun b p off n hx=>by grind[Kz])
 ·rename_i args sI ho
  split at e
  case h_2=>cases e
  rename_i x1 x2 Ih;obtain⟨o1,o2,rfl,hx1,hx2⟩:=Ya Ih;have aa:=h.ev o1;have aw:=h.ev o2;rw[hx1]at aa;rw[hx2]at aw;obtain⟨r,val,h1,h2,h3⟩:=UX (P:=P) (big:=true) e aa aw sI #[] o.type;simp only[AT8]at h2;exact same (v:=val) (x:= .c r) (by simp[execOp,ho,resolve,invoke,builtin,h2]) h3 h1
 ·rename_i args sI ho
  split at e
  case h_2=>cases e
  rename_i x1 x2 Ih;obtain⟨o1,o2,rfl,hx1,hx2⟩:=Ya Ih;have aa:=h.ev o1;have aw:=h.ev o2;rw[hx1]at aa;rw[hx2]at aw;obtain⟨r,val,h1,h2,h3⟩:=UX (P:=P) (big:=false) e aa aw sI #[] o.type;simp only[ANZ,AQ7]at h2;exact same (v:=val) (x:= .c r) (by simp[execOp,ho,resolve,invoke,builtin,h2]) h3 h1
 simp_all
end
end Go.Fw
end
