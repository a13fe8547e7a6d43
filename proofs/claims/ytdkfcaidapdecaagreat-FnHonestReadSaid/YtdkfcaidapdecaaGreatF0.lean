/- The framework, part 1: a checked interpreter of the model's code over abstract states; no claim is made here. -/
import Derived.Calls
import Derived.Still
import Derived.Laws.World
import Derived.Laws.AppendOwn
import Derived.RowKit3
import Derived.Deep.MidRow
import Derived.Laws.StructEq
import Derived.Lib.ConvBytes
import Derived.Laws.BytesArg
import Derived.Tactics
import Derived.OrdersHeld
import Derived.ChangeArms
import Derived.ChangeOld
import Derived.DataReads
import Derived.Below
import Derived.Shelf.Spec.SlicesInsertGrow
import Derived.Shelf.Slices.Delete
set_option linter.unusedVariables false
set_option linter.unusedSimpArgs false
set_option linter.unusedSectionVars false
abbrev ABk:Type:=Int × Int × Bool × List UInt8 × Unit
abbrev AKd:Type:=List UInt8 × List Int × Bool × Unit
abbrev AE2:Type:=List Int × Bool × Int × Unit
abbrev AD2:Type:=Int × Int × List UInt8 × Unit
abbrev AGW:Type:=Int × List UInt8 × Bool × Unit
abbrev ADR:Type:=Unit × Int × Unit × Unit × Unit × Int × Unit × Unit × Unit × Unit × Bool × Unit
abbrev AAM:Type:=List Int
abbrev AKn:Type:=Int × Bool × Int × Int × Bool × List UInt8 × Unit
abbrev AAq:Type:=List Int × Int × Unit
abbrev ACP:Type:=List Int × Int × Int × Unit
abbrev AHb:Type:=Int × Int × Unit × Unit × Bool × Unit × Unit
abbrev AA1:Type:=Bool × Unit
abbrev AA3:Type:=Int × Unit
abbrev AKf:Type:=Unit × Unit × Int × Unit
abbrev AA9:Type:=Unit × Unit
abbrev AA_:Type:=List Int × Unit
abbrev AHp:Type:=Unit × Int × Unit
abbrev ABA:Type:=Int × Int × Int × Int × List UInt8 × Unit
abbrev AAs:Type:=List Nat
abbrev AIt:Type:=Int × Int × Unit × Unit
abbrev AIg:Type:=Int × Unit × Unit
abbrev AKg:Type:=Int × Bool × Unit
abbrev ABj:Type:=Nat × Nat
abbrev AF_:Type:=Unit × List Int × Unit
abbrev AFm:Type:=Nat × List Nat
abbrev AA7:Type:=List UInt8
abbrev AGJ:Type:=List UInt8 × Unit
abbrev AAy:Type:=Int × Int × List Int × List ABk × Bool × List AAM × Unit
abbrev AA6:Type:=List ABk × List ABk × Int × Unit
abbrev AB6:Type:=Int × Int × List AD2 × Unit
abbrev AA8:Type:=Int × List AKd × Unit
abbrev AAR:Type:=List ABk
abbrev AAN:Type:=List AE2
abbrev AAS:Type:=List AGW
abbrev AA5:Type:=List AE2 × Int × Unit
abbrev AKp:Type:=ADR × Int × Unit
abbrev AA4:Type:=List AKd
abbrev AKr:Type:=AKf × Bool × Unit
abbrev AKt:Type:=AHb × Bool × Unit
abbrev ADB:Type:=ACP × Unit
abbrev ACt:Type:=AHp × Unit
abbrev ACn:Type:=List AD2
abbrev AK2:Type:=AIg × Bool × Unit
abbrev AK1:Type:=AHp × Bool × Unit
abbrev AK0:Type:=ABk × Bool × Unit
abbrev AEf:Type:=ACP × List Int × Unit
abbrev ADv:Type:=AKg × Unit
abbrev ADu:Type:=AKf × Unit
abbrev ADs:Type:=AHb × Unit
abbrev ABB:Type:=List AKn
abbrev ADy:Type:=AIt × Unit
abbrev ADx:Type:=AIg × Unit
abbrev AD0:Type:=ADR × Unit
abbrev AFc:Type:=ABA × Unit
abbrev ACY:Type:=AA3 × Unit
abbrev AFH:Type:=ABk × Unit
abbrev AJ4:Type:=AIg × Int × Bool × Unit
abbrev AJo:Type:=AHp × Int × Bool × Unit
abbrev AKD:Type:=ADR × Unit × ADR × Unit
abbrev AJO:Type:=AIt × Int × Unit
abbrev AA2:Type:=List Int × Int × List AA6 × List Int × List AE2 × Int × List AA8 × List AAy × List AB6 × List AGW × Bool × Unit
abbrev AAO:Type:=List AA6
abbrev AAc:Type:=List AA8
abbrev AAn:Type:=List AB6
abbrev AAi:Type:=List AAy
abbrev ACw:Type:=List Int × AAR × List AAM × Unit
abbrev ACu:Type:=AAR × AAR × Unit
abbrev ACL:Type:=AKp × Unit
abbrev AC4:Type:=AKr × Unit
abbrev ADt:Type:=AKt × Unit
abbrev ADr:Type:=AA4 × Unit
abbrev ADV:Type:=AAN × Unit
abbrev ADz:Type:=ACn × Unit
abbrev ADw:Type:=AAR × Unit
abbrev AD1:Type:=AK0 × Unit
abbrev AEH:Type:=AK1 × Unit
abbrev AEC:Type:=AK2 × Unit
abbrev AKX:Type:=ACP × List Int × AAR × List AAM × Unit
abbrev AHC:Type:=Unit × AAR × Unit
abbrev AJM:Type:=AIt × Unit × ACn × Unit
abbrev AKJ:Type:=ACP × AAR × AAR × Unit
abbrev AKW:Type:=ACP × AA4 × Unit
abbrev AKN:Type:=ACP × AAN × Unit
abbrev ACZ:Type:=List Int × AAO × List Int × AAN × AAc × AAi × AAn × AAS × Unit
abbrev ADU:Type:=ADR × List Int × AAO × List Int × AAN × AAc × AAi × AAn × AAS × Unit
abbrev AKb:Type:=ADR × List Int × AAO × Unit × AAN × AAc × AAi × AAn × AAS × List Int × Unit
abbrev AJ9:Type:=List Int × AAO × Unit × AAN × AAc × AAi × AAn × AAS × List Int × Unit
abbrev AJ_:Type:=AAO × AAR × AAR × Unit
abbrev AK_:=@Bool.eq_false_or_eq_true
abbrev ALC:=@if_pos
abbrev ALD:=@List.getElem?_eq_getElem
abbrev ALG:=@if_neg
abbrev ALL:=@Option.some.injEq
abbrev ALN:=@Option.map_eq_some_iff
abbrev ALO:=@List.getElem?_eq_some_iff
abbrev ALW:=@Bool.not_true
abbrev ALe:=@Option.bind_eq_some_iff
abbrev ALo:=@Bool.and_eq_true
abbrev AL5:=@cond_false
abbrev AL6:=@Bool.false_eq_true
abbrev AMG:=@List.drop_eq_nil_of_le
abbrev AMM:=@Option.bind_some
abbrev AMp:=@Int.toNat_natCast
abbrev AMx:=@List.getElem_mem
abbrev ANI:=@List.append_nil
abbrev ANR:=@decide_eq_true_eq
abbrev ANZ:=@cond_true
abbrev ANi:=@List.append_assoc
abbrev ANm:=@Bool.true_and
abbrev ANo:=@Sigma.mk.injEq
abbrev AN2:=@List.length_cons
abbrev AOA:=@List.nodup_append
abbrev AOO:=@List.mem_append
abbrev AOc:=@List.length_append
abbrev AOh:=@List.getElem?_append_left
abbrev AOr:=@Nat.mul_le_mul_right
abbrev AOu:=@List.drop_zero
abbrev AO9:=@List.mem_of_getElem?
abbrev APA:=@beq_eq_false_iff_ne
abbrev APB:=@if_false
abbrev APH:=@List.getElem?_append_right
abbrev APM:=@Nat.le_refl
abbrev APR:=@Bool.not_eq_true
abbrev APd:=@Bool.not_eq_false'
abbrev APl:=@decide_eq_true
abbrev APp:=@List.length_nil
abbrev APq:=@List.nil_append
abbrev APr:=@List.mem_cons
abbrev APx:=@List.cons.injEq
abbrev AP0:=@List.eq_nil_of_length_eq_zero
abbrev AP6:=@List.filter_cons
abbrev AP_:=@List.mem_singleton
abbrev AQD:=@Prod.mk.injEq
abbrev AQJ:=@eq_of_heq
abbrev AQL:=@Nat.le_trans
abbrev AQM:=@List.length_filter_le
abbrev AQN:=@List.getElem?_map
abbrev AQO:=@decide_eq_false
abbrev AQP:=@List.mem_flatten
abbrev AQQ:=@List.getElem?_set_ne
abbrev AQR:=@Bool.not_false
abbrev AQS:=@List.getElem_of_mem
abbrev AQT:=@List.pairwise_cons
abbrev AQU:=@List.getElem?_eq_none
abbrev AQV:=@if_true
abbrev AQW:=@Bool.false_or
abbrev AQX:=@List.mem_or_eq_of_mem_set
abbrev AQY:=@List.singleton_append
abbrev AQZ:=@Nat.lt_of_lt_of_le
abbrev AQa:=@List.take_of_length_le
abbrev AQb:=@beq_iff_eq
abbrev AQc:=@and_true
abbrev AQd:=@Bool.or_eq_true
abbrev AQe:=@Option.isSome_some
abbrev AQf:=@List.take_succ_eq_append_getElem
abbrev AQg:=@Option.getD_some
abbrev AQh:=@Option.isSome_none
abbrev AQi:=@Bool.false_and
abbrev AQj:=@List.all_eq_true
abbrev AQk:=@List.length_set
abbrev AQl:=@List.getElem?_set_self
abbrev AQm:=@Nat.add_mul
abbrev AQn:=@List.drop_length
abbrev AQo:=@Bool.not_eq_true'
abbrev AQp:=@Bool.and_true
abbrev AQq:=@List.cons_append
abbrev AQr:=@List.all_cons
abbrev AQs:=@List.map_congr_left
abbrev AQt:=@List.flatten_append
abbrev AQu:=@Nat.zero_add
abbrev AQv:=@List.length_replicate
abbrev AQw:=@List.eq_of_mem_replicate
abbrev AQx:=@List.contains_iff_mem
abbrev AQy:=@Bool.eq_false_iff
abbrev AQz:=@Nat.add_assoc
abbrev AQ0:=@List.mem_map
abbrev AQ1:=@List.flatten_cons
abbrev AQ2:=@Nat.add_zero
abbrev AQ3:=@Nat.le_of_lt
abbrev AQ4:=@decide_eq_false_iff_not
abbrev AQ5:=@Option.bind_assoc
abbrev AQ6:=@List.length_map
abbrev AQ7:=@List.mem_filter
abbrev ARP:=@List.Perm.append_right
abbrev ARY:=@List.getElem_cons_zero
abbrev ARf:=@List.map_cons
abbrev ARg:=@List.set_cons_zero
abbrev ARi:=@List.mem_of_mem_drop
abbrev ARn:=@List.ext_getElem?
abbrev ARq:=@List.filter_nil
abbrev ARr:=@List.pairwise_map
abbrev ARt:=@List.map_map
abbrev AR5:=@Array.length_toList
abbrev AR8:=@Nat.sub_mul
abbrev ASC:=@List.flatten_nil
abbrev ASJ:=@List.length_drop
abbrev ASS:=@List.length_take
abbrev ASV:=@List.take_append_of_le_length
abbrev ASW:=@Bool.and_false
abbrev ASk:=@List.getElem?_drop
abbrev ASn:=@List.getElem?_take
abbrev ASt:=@List.filter_append
abbrev ASu:=@List.Perm.append_left
abbrev AS4:=@List.map_nil
abbrev AS8:=@List.nodup_cons
abbrev ATA:=@Array.getD_eq_getD_getElem?
abbrev ATK:=@List.take_append_drop
abbrev ATL:=@List.set_append_right
abbrev ATS:=@Decidable.not_not
abbrev ATW:=@List.exists_cons_of_length_eq_add_one
abbrev ATe:=@List.mem_of_mem_take
abbrev ATl:=@List.mem_of_find?_eq_some
abbrev AT8:=@List.pairwise_iff_getElem
abbrev AT9:=@List.take_zero
abbrev AT_:=@List.length_eq_zero_iff
abbrev AUB:=@Int.eq_ofNat_of_zero_le
abbrev AUM:=@List.find?_cons
abbrev AUQ:=@Nat.eq_zero_or_pos
abbrev AUR:=@Array.size_append
abbrev AUZ:=@List.size_toArray
abbrev AUb:=@Nat.zero_le
abbrev AUf:=@List.set_set
abbrev AUk:=@dite_true
abbrev AUy:=@Bool.true_or
abbrev AU8:=@List.getElem_set_self
abbrev AU9:=@List.mem_cons_of_mem
abbrev AU_:=@Bool.or_false
abbrev AVA:=@List.length_pos_iff
abbrev AVB:=@Option.some.inj
abbrev AVC:=@List.drop_set_of_lt
abbrev AVD:=@List.take_set_of_le
abbrev AVE:=@Nat.sub_self
abbrev AVF:=@List.Perm.refl
abbrev AVG:=@List.mapM_cons
section
namespace Go.Fw
inductive Ty where
 |int (k:IntKind)|bool|str|sl (r:Ty)|unit|cons (c r:Ty)
 deriving DecidableEq
@[reducible] def Ty.D:Ty→Type
 | .int _=>Int
 | .bool=>Bool
 | .str=>List UInt8
 | .sl r=>List r.D
 | .unit=>Unit
 | .cons c r=>c.D×r.D
def Ty.n:Ty→Nat
 | .unit=>0
 | .cons _ r=>r.n+1
 |_=>1
def Ty.z:(t:Ty)→t.D
 | .int _=>(0:Int)
 | .bool=>false
 | .str=>[]
 | .sl _=>[]
 | .unit=>()
 | .cons c r=>(c.z,r.z)
def Ty.flat:Ty→Bool
 | .sl _=>false
 | .cons c r=>c.flat&&r.flat
 |_=>true
def Ty.scalar:Ty→Bool
 | .int _| .bool| .str=>true
 |_=>false
structure ky where
 i:Nat
 sz:Nat
 j:Nat
inductive AV where
 |v (t:Ty) (x:t.D)
 |sl (s:Bool) (r:Ty) (x:List r.D)
 |nil
 |ref (b:Nat) (p:List ky)
 |win (b:Nat) (p:List ky) (off n:Nat)
 |IX (b j:Nat)
 |Je (b:Nat) (p:List ky) (i sz j:Nat)
 |PO (s:Bool) (r:Ty) (x:r.D) (j:Nat)
 |fn (f:Nat) (Kg:AAs)
 |qG (f:Nat) (rows:List ((r:Ty)×r.D))
 |xB
 |undef
def AV.known:AV→Bool
 | .undef=>false
 |_=>true
inductive XV where
 |c (x:AV)
 |agg (l:List AV)
 |NA (l:List (AV ⊕ List AV))
inductive Bx where
 |mem (cs:List AV)
 |sl (d:Nat) (r:Ty) (rows:List r.D)
 |dead
structure St where
 tm:List XV
 bx:List Bx
def BK:(r:Ty)→(j:Nat)→r.D→Option ((t:Ty)×t.D)
 | .cons c _,0,x=>some ⟨c,x.1⟩
 | .cons _ r,j+1,x=>BK r j x.2
 | .unit,_,_=>none
 | .int k,0,x=>some ⟨.int k,x⟩
 | .bool,0,x=>some ⟨.bool,x⟩
 | .str,0,x=>some ⟨.str,x⟩
 | .sl r,0,x=>some ⟨.sl r,x⟩
 |_,_+1,_=>none
def oB{a b:Ty}(h:a=b)(x:a.D):b.D:=h▸x
def Dt:(r:Ty)→(j:Nat)→r.D→(t:Ty)→t.D→Option r.D
 | .cons c _,0,x,t,y=>if h:t=c then some (oB h y,x.2)else none
 | .cons _ r,j+1,x,t,y=>(Dt r j x.2 t y).map fun z=>(x.1,z)
 | .unit,_,_,_,_=>none
 | .int k,0,_,t,y=>if h:t= .int k then some (oB h y)else none
 | .bool,0,_,t,y=>if h:t= .bool then some (oB h y)else none
 | .str,0,_,t,y=>if h:t= .str then some (oB h y)else none
 | .sl r,0,_,t,y=>if h:t= .sl r then some (oB h y)else none
 |_,_+1,_,_,_=>none
def rowAt(r:Ty)(rows:List r.D)(i:Nat):r.D:=rows.getD i r.z
def G3:(r:Ty)→List r.D→List ky→Option ((q:Ty)×List q.D)
 |r,rows,[]=>some ⟨r,rows⟩
 |r,rows,s::p=>
  match BK r s.j (rowAt r rows s.i)with
  |some ⟨.sl q,x⟩=>G3 q x p
  |_=>none
def oG:(r:Ty)→List r.D→List ky→(q:Ty)→List q.D→Option (List r.D)
 |r,_,[],q,y=>if h:q=r then some (oB (congrArg Ty.sl h) y)else none
 |r,rows,s::p,q,y=>
  match BK r s.j (rowAt r rows s.i)with
  |some ⟨.sl r',x⟩=>(oG r' x p q y).bind fun x' =>(Dt r s.j (rowAt r rows s.i) (.sl r') x').map fun row=>rows.set s.i row
  |_=>none
inductive TD where
 |int (k:IntKind)|bool|str|sl (e:Nat)|st (fs:List ABj)|ptr (e:Nat)|other
structure TI where
 size:Nat
 bytes:Nat
 desc:TD
 row:Option Ty
abbrev Jm:=List (Nat×TI)
def Jm.get:Jm→Nat→Option TI
 |[],_=>none
 |(u,i)::l,t=>if u=t then some i else Jm.get l t
def TD.agg:TD→Bool
 | .st _=>true
 |_=>false
def Jm.iW(T:Jm)(t:Nat):Option Ty:=
 match T.get t with
 |some ti=>ti.row
 |none=>none
def xr:Ty→AV
 | .int k=> .v (.int k) (0:Int)
 | .bool=> .v .bool false
 | .str=> .v .str []
 | .sl _=> .nil
 |_=> .undef
def bM:Ty→List AV
 | .cons c r=>xr c::bM r
 | .unit=>[]
 |t=>[xr t]
def p7:Value→AV
 | .int k n=> .v (.int k) n
 | .bool b=> .v .bool b
 | .string s=> .v .str s.data.toList
 | .slice none 0 0=> .nil
 | .pointer none=> .xB
 |_=> .undef
def ofValue:Value→XV
 | .agg cs=> .agg (cs.toList.map p7)
 |v=> .c (p7 v)
def St.ev(σ:St):Operand→XV
 | .tmp t=>σ.tm.getD t (.c .undef)
 | .const v=>ofValue v
 | .global _=> .c .undef
 | .func f=> .c (.fn f [])
def St.put(σ:St)(dst:Option Tmp)(x:XV):St:=
 match dst with
 |some d=>{ σ with tm:=σ.tm.set d x }
 |none=>σ
def XV.cells:XV→List AV
 | .c x=>[x]
 | .agg l=>l
 | .NA _=>[]
def QW{β:Ty→Type}(a b:Ty)(x:β a):Option (β b):=if h:a=b then some (h▸x)else none
def NU(bx:List Bx):AV→Option ((r:Ty)×List r.D)
 | .sl _ r x=>some ⟨r,x⟩
 | .ref b p=>
  match bx[b]? with
  |some (.sl _ r rows)=>G3 r rows p
  |_=>none
 | .win b p off n=>
  match bx[b]? with
  |some (.sl _ r rows)=>(G3 r rows p).map fun q=>⟨q.1,(q.2.drop off).take n⟩
  |_=>none
 |_=>none
def Ms(bx:List Bx)(t:Ty)(x:AV):Option t.D:=
 match x with
 | .v u y=>QW (β:=Ty.D) u t y
 | .nil=>match t with
  | .sl _=>some []
  |_=>none
 |x=>match t with
  | .sl r=>(NU bx x).bind fun q=>QW (β:=fun r=>List r.D) q.1 r q.2
  |_=>none
def H8(bx:List Bx):(r:Ty)→List AV→Option r.D
 | .unit,[]=>some ()
 | .cons c r,x::l=>(Ms bx c x).bind fun a=>(H8 bx r l).map fun b=>(a,b)
 |_,_=>none
def lenOf(bx:List Bx):AV→Option Nat
 | .nil=>some 0
 | .sl _ _ x=>some x.length
 | .ref b p=>
  match bx[b]? with
  |some (.sl _ r rows)=>(G3 r rows p).map fun q=>q.2.length
  |_=>none
 | .win b _ _ n=>
  match bx[b]? with
  |some (.sl _ _ _)=>some n
  |_=>none
 |_=>none
inductive AP where
 |v (t:Ty)
 |sl (s:Bool) (r:Ty)
 |nil
 |ref (i:Nat)
 |ptr (i j:Nat)
 |mV (r:Ty)
 |fn (f:Nat) (Kg:AAs)
 |qG (f:Nat) (rs:List Ty)
 |any
 |kj (i sz:Nat)
inductive XP where
 |c (p:AP)
 |agg (l:List AP)
 |row (r:Ty)
 |NA (l:List (AP ⊕ List AP))
inductive BP where
 |mem (l:List AP)
 |sl (d:Nat) (r:Ty)
 |gone
structure A5 where
 Dr:List (Nat×XP)
 Gr:List BP
@[reducible] def Zb:List Ty→Type
 |[]=>Unit
 |r::l=>r.D×Zb l
def Zb.mk:(l:List Ty)→Zb l→List ((r:Ty)×r.D)
 |[],_=>[]
 |r::l,x=>⟨r,x.1⟩::Zb.mk l x.2
@[reducible] def AP.V:AP→Type
 | .qG _ rs=>Zb rs
 | .v t=>t.D
 | .sl _ r=>List r.D
 | .mV r=>r.D
 | .kj _ _=>Nat×Nat
 |_=>Unit
@[reducible] def Xt.V:List AP→Type
 |[]=>Unit
 |p::l=>p.V×Xt.V l
@[reducible] def YS.V:List (AP ⊕ List AP)→Type
 |[]=>Unit
 | .inl p::l=>p.V×YS.V l
 | .inr q::l=>Xt.V q×YS.V l
@[reducible] def XP.V:XP→Type
 | .c p=>p.V
 | .agg l=>Xt.V l
 | .row r=>r.D
 | .NA l=>YS.V l
@[reducible] def BP.V:BP→Type
 | .mem l=>Xt.V l
 | .sl _ r=>List r.D
 | .gone=>Unit
@[reducible] def Gy.V:List (Nat×XP)→Type
 |[]=>Unit
 |(_,p)::l=>p.V×Gy.V l
@[reducible] def Jr.V:List BP→Type
 |[]=>Unit
 |p::l=>p.V×Jr.V l
@[reducible] def A5.V (s:A5):Type:=Gy.V s.Dr×Jr.V s.Gr
def AP.mk(m:Nat→Nat):(p:AP)→p.V→AV
 | .v t,x=> .v t x
 | .sl s r,x=> .sl s r x
 | .nil,_=> .nil
 | .ref i,_=> .ref (m i) []
 | .ptr i j,_=> .IX (m i) j
 | .mV r,x=> .PO false r x 0
 | .fn f Kg,_=> .fn f (Kg.map m)
 | .qG f rs,x=> .qG f (Zb.mk rs x)
 | .any,_=> .undef
 | .kj i sz,k=> .ref (m i) [⟨k.1,sz,k.2⟩]
def Xt.mk(m:Nat→Nat):(l:List AP)→Xt.V l→List AV
 |[],_=>[]
 |p::l,x=>p.mk m x.1::Xt.mk m l x.2
def oX:(r:Ty)→r.D→List AV
 | .unit,_=>[]
 | .cons c r,x=>(match c,x.1 with
  | .sl q,y=>AV.sl false q y
  |c,y=> .v c y)::oX r x.2
 | .sl q,x=>[.sl false q x]
 | .int k,x=>[.v (.int k) x]
 | .bool,x=>[.v .bool x]
 | .str,x=>[.v .str x]
def YS.mk(m:Nat→Nat):(l:List (AP ⊕ List AP))→YS.V l→List (AV ⊕ List AV)
 |[],_=>[]
 | .inl p::l,x=> .inl (p.mk m x.1)::YS.mk m l x.2
 | .inr q::l,x=> .inr (Xt.mk m q x.1)::YS.mk m l x.2
def XP.mk(m:Nat→Nat):(p:XP)→p.V→XV
 | .c p,x=> .c (p.mk m x)
 | .agg l,x=> .agg (Xt.mk m l x)
 | .row r,x=> .agg (oX r x)
 | .NA l,x=> .NA (YS.mk m l x)
def BP.mk(m:Nat→Nat):(p:BP)→p.V→Bx
 | .mem l,x=> .mem (Xt.mk m l x)
 | .sl d r,x=> .sl d r x
 | .gone,_=> .dead
def Gy.mk(m:Nat→Nat):(l:List (Nat×XP))→Gy.V l→List XV→List XV
 |[],_,tm=>tm
 |(i,p)::l,x,tm=>Gy.mk m l x.2 (tm.set i (p.mk m x.1))
def Jr.mk(m:Nat→Nat):(l:List BP)→Jr.V l→List Bx
 |[],_=>[]
 |p::l,x=>p.mk m x.1::Jr.mk m l x.2
def A5.st(s:A5)(n:Nat)(x:s.V):St:=
 { tm:=Gy.mk id s.Dr x.1 (List.replicate n (.c .undef)),bx:=Jr.mk id s.Gr x.2 }
abbrev PZ:=List (Option Nat)
def PZ.put(m:PZ)(i b:Nat):Option PZ:=
 match m[i]? with
 |some none=>if m.contains (some b)then none else some (m.set i (some b))
 |some (some b')=>if b' =b then some m else none
 |none=>none
def aY:PZ→List Nat→List Nat→Option PZ
 |m,[],[]=>some m
 |m,i::is,b::bs=>(m.put i b).bind fun m=>aY m is bs
 |_,_,_=>none
def AP.N1(N:Nat)(m:PZ):AP→AV→Option PZ
 | .ref i,.ref b []=>m.put i b
 | .ref i,.nil=>m.put i (N+i)
 | .ref _,_=>none
 | .kj i sz,.ref b [s]=>if s.sz=sz then m.put i b else none
 | .kj _ _,_=>none
 | .ptr i j,.IX b j' =>if j=j' then m.put i b else none
 | .ptr _ _,_=>none
 | .fn f Kg,.fn g bs=>if f=g then aY m Kg bs else none
 | .fn _ _,_=>none
 | .nil,.nil=>some m
 | .nil,_=>none
 |_,_=>some m
def Xt.N1(N:Nat):PZ→List AP→List AV→Option PZ
 |m,[],[]=>some m
 |m,p::l,x::xs=>(p.N1 N m x).bind fun m=>Xt.N1 N m l xs
 |_,_,_=>none
def YS.N1(N:Nat):PZ→List (AP ⊕ List AP)→List (AV ⊕ List AV)→Option PZ
 |m,[],[]=>some m
 |m,.inl p::l,.inl x::xs=>(p.N1 N m x).bind fun m=>YS.N1 N m l xs
 |m,.inr p::l,.inr x::xs=>(Xt.N1 N m p x).bind fun m=>YS.N1 N m l xs
 |_,_,_=>none
def XP.N1(N:Nat)(m:PZ):XP→XV→Option PZ
 | .c p,.c x=>p.N1 N m x
 | .agg l,.agg xs=>Xt.N1 N m l xs
 | .row _,.agg _=>some m
 | .NA l,.NA xs=>YS.N1 N m l xs
 |_,_=>none
def Gy.N1(N:Nat)(tm:List XV):PZ→List (Nat×XP)→Option PZ
 |m,[]=>some m
 |m,(i,p)::l=>
  match tm[i]? with
  |some x=>(p.N1 N m x).bind fun m=>Gy.N1 N tm m l
  |none=>none
def Jr.N1(N:Nat)(bx:List Bx):Nat→PZ→List BP→Option PZ
 |_,m,[]=>some m
 |i,m,.mem l::ps=>
  match m[i]? with
  |some (some b)=>
   match bx[b]? with
   |some (.mem cs)=>(Xt.N1 N m l cs).bind fun m=>Jr.N1 N bx (i+1) m ps
   |_=>none
  |_=>none
 |i,m,.sl _ _::ps=>
  match m[i]? with
  |some (some _)=>Jr.N1 N bx (i+1) m ps
  |_=>none
 |i,m,.gone::ps=>Jr.N1 N bx (i+1) m ps
def Cs(bx:List Bx):PZ→List Bx
 |[]=>bx
 |some b::m=>Cs (bx.set b .dead) m
 |none::m=>Cs bx m
def Zb.ny:(l:List Ty)→List ((r:Ty)×r.D)→Option (Zb l)
 |[],[]=>some ()
 |r::l,q::qs=>(QW (β:=Ty.D) q.1 r q.2).bind fun a=>(Zb.ny l qs).map fun b=>(a,b)
 |_,_=>none
def Zb.pO(bx:List Bx):(l:List Ty)→List Nat→Option (Zb l)
 |[],[]=>some ()
 |r::l,b::bs=>(match bx[b]? with
  |some (.mem cs)=>H8 bx r cs
  |_=>none).bind fun a=>(Zb.pO bx l bs).map fun c=>(a,c)
 |_,_=>none
def AP.get(bx:List Bx):(p:AP)→AV→Option p.V
 | .qG f rs,x=>match x with
  | .qG g rows=>if f=g then Zb.ny rs rows else none
  | .fn g bs=>if f=g then Zb.pO bx rs bs else none
  |_=>none
 | .v t,x=>if t.scalar then Ms bx t x else none
 | .sl false r,x=>Ms bx (.sl r) x
 | .sl true r,x=>match x with
  | .sl true q y=>QW (β:=fun r=>List r.D) q r y
  | .nil=>some []
  |_=>none
 | .mV r,x=>match x with
  | .PO _ q y 0=>QW (β:=Ty.D) q r y
  | .IX b 0=>match bx[b]? with
   |some (.mem cs)=>H8 bx r cs
   |_=>none
  | .Je b p i sz 0=>match bx[b]? with
   |some (.sl _ q rows)=>(G3 q rows p).bind fun s=>if sz=s.1.n then QW (β:=Ty.D) s.1 r (rowAt s.1 s.2 i)else none
   |_=>none
  |_=>none
 | .nil,_=>some ()
 | .ref _,_=>some ()
 | .ptr _ _,_=>some ()
 | .fn _ _,_=>some ()
 | .any,_=>some ()
 | .kj _ _,x=>match x with
  | .ref _ [s]=>some (s.i,s.j)
  |_=>none
def Xt.get(bx:List Bx):(l:List AP)→List AV→Option (Xt.V l)
 |[],[]=>some ()
 |p::l,x::xs=>(p.get bx x).bind fun a=>(Xt.get bx l xs).map fun b=>(a,b)
 |_,_=>none
def YS.get(bx:List Bx):(l:List (AP ⊕ List AP))→List (AV ⊕ List AV)→Option (YS.V l)
 |[],[]=>some ()
 | .inl p::l,.inl x::xs=>(p.get bx x).bind fun a=>(YS.get bx l xs).map fun b=>(a,b)
 | .inr p::l,.inr x::xs=>(Xt.get bx p x).bind fun a=>(YS.get bx l xs).map fun b=>(a,b)
 |_,_=>none
def XP.get(bx:List Bx):(p:XP)→XV→Option p.V
 | .c p,.c x=>p.get bx x
 | .agg l,.agg xs=>Xt.get bx l xs
 | .row r,.agg xs=>H8 bx r xs
 | .NA l,.NA xs=>YS.get bx l xs
 |_,_=>none
def Gy.get(bx:List Bx)(tm:List XV):(l:List (Nat×XP))→Option (Gy.V l)
 |[]=>some ()
 |(i,p)::l=>
  match tm[i]? with
  |some x=>(p.get bx x).bind fun a=>(Gy.get bx tm l).map fun b=>(a,b)
  |none=>none
def Jr.get(bx bk:List Bx):(m:PZ)→(l:List BP)→Option (Jr.V l)
 |_,[]=>some ()
 |some b::m,.mem l::ps=>
  match bx[b]? with
  |some (.mem cs)=>(Xt.get bk l cs).bind fun a=>(Jr.get bx bk m ps).map fun c=>(a,c)
  |_=>none
 |some b::m,.sl d r::ps=>
  match bx[b]? with
  |some (.sl d' q rows)=>if 1≤d∧d≤d' then(QW (β:=fun r=>List r.D) q r rows).bind fun a=>(Jr.get bx bk m ps).map fun c=>(a,c)else none
  |_=>none
 |_::m,.gone::ps=>(Jr.get bx bk m ps).map fun c=>((),c)
 |_,_=>none
def A5.fit(s:A5)(N:Nat)(m0:PZ)(tm:List XV)(bx:List Bx):Option (s.V×PZ):=
 (Gy.N1 N tm m0 s.Dr).bind fun m=>(Jr.N1 N bx 0 m s.Gr).bind fun m=>
  let bk:=Cs bx m
  (Gy.get bk tm s.Dr).bind fun a=>(Jr.get bx bk m s.Gr).map fun c=>((a,c),m)
def BP.opened:BP→Bx
 | .sl d r=> .sl (d+1) r []
 |_=> .dead
def A5.opens(s:A5)(bx:List Bx):List Bx:=bx++s.Gr.map BP.opened
def A5.m0(s:A5):PZ:=List.replicate s.Gr.length none
structure Pj where
 ins:A5
 outs:A5
 g:ins.V→Option outs.V
def YP(m:PZ)(n:Nat)(i:Nat):Nat:=
 match m[i]? with
 |some (some b)=>b
 |_=>n+(i-m.length)
def Zz(Jc:Nat→Nat):Nat→(l:List BP)→Jr.V l→List Bx→List Bx
 |_,[],_,bx=>bx
 |i,p::l,x,bx=>Zz Jc (i+1) l x.2 (if Jc i<bx.length then bx.set (Jc i) (p.mk Jc x.1)else bx++[p.mk Jc x.1])
def eH:(l:List (Nat×XP))→Gy.V l→(Nat→Nat)→XV
 |(_,p)::_,x,Jc=>p.mk Jc x.1
 |[],_,_=> .c .undef
def DA:Nat:=2^36
section ops
variable{Y:Type}
abbrev K(Y:Type):=XV→St→Option Y
def St.new(σ:St)(b:Bx):St:={ σ with bx:=σ.bx++[b] }
def ABa(x:Bool)(a b:XV)(σ:St)(k:K Y):Option Y:=cond x (k a σ) (k b σ)
def fQ(op:BinOp)(κ:IntKind)(a b:Int)(k:AV→Option Y):Option Y:=
 match op with
 | .add=>k (.v (.int κ) (κ.wrap (a+b)))
 | .sub=>k (.v (.int κ) (κ.wrap (a-b)))
 | .mul=>k (.v (.int κ) (κ.wrap (a*b)))
 | .quo=>if b=0 then none else k (.v (.int κ) (κ.wrap (a.tdiv b)))
 | .rem=>if b=0 then none else k (.v (.int κ) (a.tmod b))
 | .and=>k (.v (.int κ) (κ.wrap (BitVec.ofInt κ.bits a &&& BitVec.ofInt κ.bits b).toNat))
 | .or=>k (.v (.int κ) (κ.wrap (BitVec.ofInt κ.bits a ||| BitVec.ofInt κ.bits b).toNat))
 | .xor=>k (.v (.int κ) (κ.wrap (BitVec.ofInt κ.bits a ^^^ BitVec.ofInt κ.bits b).toNat))
 | .andNot=>k (.v (.int κ) (κ.wrap (BitVec.ofInt κ.bits a &&& ~~~BitVec.ofInt κ.bits b).toNat))
 | .eql=>k (.v .bool (a==b))
 | .neq=>k (.v .bool (a !=b))
 | .lss=>k (.v .bool (decide (a<b)))
 | .leq=>k (.v .bool (decide (a≤b)))
 | .gtr=>k (.v .bool (decide (a>b)))
 | .geq=>k (.v .bool (decide (a≥b)))
 |_=>none
def YQ(op:BinOp)(κ:IntKind)(a b:Int)(k:AV→Option Y):Option Y:=
 if b<0 then none else
 match op with
 | .shl=>k (.v (.int κ) (κ.wrap (a*2^min b.toNat κ.bits)))
 | .shr=>k (.v (.int κ) (a.fdiv (2^min b.toNat κ.bits)))
 |_=>none
def jM(op:BinOp)(a b:AA7)(k:AV→Option Y):Option Y:=
 match op with
 | .add=>if a.length+b.length≤DA then k (.v .str (a++b))else none
 | .eql=>k (.v .bool (a==b))
 | .neq=>k (.v .bool (!(a==b)))
 | .lss=>k (.v .bool (Op.bytesLess a b))
 | .leq=>k (.v .bool (Op.bytesLess a b||a==b))
 | .gtr=>k (.v .bool (!(Op.bytesLess a b||a==b)))
 | .geq=>k (.v .bool (!Op.bytesLess a b))
 |_=>none
def oN:TD→AV→AV→Option Bool
 | .int _,.v (.int j) a,.v (.int k) b=>if j=k then some (a==b)else none
 | .bool,.v .bool a,.v .bool b=>some (a==b)
 | .str,.v .str a,.v .str b=>some (a==b)
 |_,_,_=>none
def LK(T:Jm):Nat→List ABj→List AV→List AV→Option Bool
 |_,[],[],[]=>some true
 |i,(o,t)::fs,x::l,z::m=>
  if o=i then
   match T.get t with
   |some ti=>match oN ti.desc x z with
    |some p=>(LK T (i+1) fs l m).map fun r=>p&&r
    |none=>none
   |none=>none
  else none
 |_,_,_,_=>none
def Jm.fields(T:Jm)(t:Nat):Option (List ABj):=
 match(T.get t).map TI.desc with
 |some (.st fs)=>some fs
 |_=>none
def vz(T:Jm)(t:Nat)(op:BinOp)(a b:XV)(k:AV→Option Y):Option Y:=
 match a,b with
 | .c (.v (.int j) x),.c (.v (.int j') y)=>
  match op with
  | .shl| .shr=>YQ op j x y k
  |_=>if j=j' then fQ op j x y k else none
 | .c (.v .str x),.c (.v .str y)=>jM op x y k
 | .c (.v .bool x),.c (.v .bool y)=>
  match T.get t with
  |some ti=>match ti.desc with
   | .bool=>match op with
    | .eql=>k (.v .bool (x==y))
    | .neq=>k (.v .bool (!(x==y)))
    |_=>none
   |_=>none
  |none=>none
 | .agg l,.agg m=>
  match op,(T.fields t).bind fun fs=>LK T 0 fs l m with
  | .eql,some r=>k (.v .bool r)
  | .neq,some r=>k (.v .bool (!r))
  |_,_=>none
 |_,_=>none
def unX(op:UnOp)(a:XV)(k:AV→Option Y):Option Y:=
 match op,a with
 | .not,.c (.v .bool x)=>k (.v .bool (!x))
 | .neg,.c (.v (.int j) x)=>k (.v (.int j) (j.wrap (0-x)))
 |_,_=>none
def ye(d b:Nat)(p:List ky)(s:ky):((t:Ty)×t.D)→AV
 |⟨.sl r,x⟩=>if d≤1 then .sl true r x else .ref b (p++[s])
 |⟨t,x⟩=>if t.scalar then .v t x else .undef
def wj(s:Bool):((t:Ty)×t.D)→AV
 |⟨.sl r,x⟩=> .sl s r x
 |⟨t,x⟩=>if t.scalar then .v t x else .undef
def eC(f:Nat→Option AV):Nat→Nat→Option (List AV)
 |_,0=>some []
 |j,n+1=>(f j).bind fun x=>(eC f (j+1) n).map fun l=>x::l
def Jh(bx:List Bx):AV→Nat→Option AV
 | .IX b j,i=>
  match bx[b]? with
  |some (.mem cs)=>cs[j+i]?
  |_=>none
 | .Je b p r sz j,i=>
  match bx[b]? with
  |some (.sl d q rows)=>if p.length<d then(G3 q rows p).bind fun s=>if sz=s.1.n then(BK s.1 (j+i) (rowAt s.1 s.2 r)).map (ye (d-p.length) b p ⟨r,sz,j+i⟩)else none else none
  |_=>none
 | .PO s r x j,i=>(BK r (j+i) x).map (wj s)
 |_,_=>none
def ln(T:Jm)(t:Nat)(σ:St)(a:XV):Option XV:=
 match a,T.get t with
 | .c a,some ti=>if ti.size=0 then none else if ti.desc.agg then(eC (Jh σ.bx a) 0 ti.size).map .agg else(Jh σ.bx a 0).map .c
 |_,_=>none
def di(d:Nat)(t:Ty)(x:AV)(bx:List Bx):Option (t.D×List Bx×Nat):=
 match x with
 | .v u y=>(QW (β:=Ty.D) u t y).map fun y=>(y,bx,d)
 | .nil=>match t with
  | .sl _=>some ([],bx,d)
  |_=>none
 | .sl true r y=>match t with
  | .sl q=>(QW (β:=fun r=>List r.D) r q y).map fun y=>(y,bx,1)
  |_=>none
 | .ref b []=>match t with
  | .sl q=>
   match bx[b]? with
   |some (.sl d' r y)=>(QW (β:=fun r=>List r.D) r q y).map fun y=>(y,bx.set b .dead,min d (d'+1))
   |_=>none
  |_=>none
 | .win b [] off n=>match t with
  | .sl q=>
   match bx[b]? with
   |some (.sl d' r y)=>(QW (β:=fun r=>List r.D) r q ((y.drop off).take n)).map fun y=>(y,bx.set b .dead,min d (d'+1))
   |_=>none
  |_=>none
 |_=>none
def cellsIn(d:Nat):(r:Ty)→List AV→List Bx→Option (r.D×List Bx×Nat)
 | .unit,[],bx=>some ((),bx,d)
 | .cons c r,x::l,bx=>(di d c x bx).bind fun a=>(cellsIn a.2.2 r l a.2.1).map fun b=>((a.1,b.1),b.2)
 |_,_,_=>none
def ADP(d:Nat)(r:Ty)(x:XV)(bx:List Bx):Option (r.D×List Bx×Nat):=
 match x with
 | .agg l=>cellsIn d r l bx
 | .c x=>di d r x bx
 |_=>none
def Js(b:Nat):AV→AV
 | .ref b' (s::p)=>if b' =b then .undef else .ref b' (s::p)
 | .win b' (s::p) i n=>if b' =b then .undef else .win b' (s::p) i n
 | .Je b' (s::p) i sz j=>if b' =b then .undef else .Je b' (s::p) i sz j
 |x=>x
def sD(b:Nat):XV→XV
 | .c x=> .c (Js b x)
 | .agg l=> .agg (l.map (Js b))
 | .NA l=> .NA (l.map fun| .inl x=> .inl (Js b x)| .inr q=> .inr (q.map (Js b)))
def yz(b:Nat):Bx→Bx
 | .mem cs=> .mem (cs.map (Js b))
 |x=>x
def St.yQ(b:Nat)(σ:St):St:={ tm:=σ.tm.map (sD b),bx:=σ.bx.map (yz b) }
def XZ(cs:List AV):Nat→List AV→Option (List AV)
 |_,[]=>some cs
 |j,x::l=>if j<cs.length then XZ (cs.set j x) (j+1) l else none
def o7(d:Nat)(r:Ty)(old:r.D)(j:Nat)(x:XV)(bx:List Bx):Option (r.D×List Bx×Nat):=
 match x with
 | .agg l=>if j=0 then cellsIn d r l bx else none
 | .c x=>
  match BK r j old with
  |some ⟨t,_⟩=>(di d t x bx).bind fun a=>(Dt r j old t a.1).map fun row=>(row,a.2)
  |none=>none
 |_=>none
def XV.plain:XV→Bool
 | .c (.v _ _)=>true
 |_=>false
def gj(σ:St)(a:XV)(x:XV):Option St:=
 match a with
 | .c (.IX b j)=>
  match σ.bx[b]? with
  |some (.mem cs)=>(XZ cs j x.cells).map fun cs=>{ σ with bx:=σ.bx.set b (.mem cs) }
  |_=>none
 | .c (.Je b p i sz j)=>
  match σ.bx[b]? with
  |some (.sl d r rows)=>if p.length<d then
   (G3 r rows p).bind fun s=>if sz=s.1.n then(o7 (d-p.length) s.1 (rowAt s.1 s.2 i) j x (σ.bx.set b .dead)).bind fun w=>
    (oG r rows p s.1 (s.2.set i w.1)).map fun rows=>
     let σ':St:={ σ with bx:=w.2.1.set b (.sl (w.2.2+p.length) r rows) }
     if x.plain then σ' else σ'.yQ b
    else none
   else none
  |_=>none
 |_=>none
def Z2(σ:St)(a x:XV):Option (St×XV):=
 match a,x with
 | .c (.Je b _ _ _ _),.c (.win b' (s::p') off n)=>
  if b' =b then
   match σ.bx[b]? with
   |some (.sl d r rows)=>(G3 r rows (s::p')).map fun q=>({ σ with bx:=σ.bx.set b (.sl (min d (p'.length+1)) r rows) },.c (.sl true q.1 ((q.2.drop off).take n)))
   |_=>none
  else none
 |_,_=>some (σ,x)
def L7(σ:St)(a x:XV):Option St:=(Z2 σ a x).bind fun q=>gj q.1 a q.2
def mv(bx:List Bx)(x:AV):Option ((r:Ty)×(List r.D×List Bx×Nat)):=
 match x with
 | .v .str s=>some ⟨.int .u8,s.map (fun c=>(c.toNat:Int)),bx,9⟩
 | .sl s r rows=>if r.flat then some ⟨r,rows,bx,9⟩else if s then some ⟨r,rows,bx,1⟩else none
 | .ref b []=>
  match bx[b]? with
  |some (.sl d r rows)=>if r.flat then some ⟨r,rows,bx,9⟩else some ⟨r,rows,bx.set b .dead,d⟩
  |_=>none
 | .ref b p=>
  match bx[b]? with
  |some (.sl _ r rows)=>(G3 r rows p).bind fun q=>if q.1.flat then some ⟨q.1,q.2,bx,9⟩else none
  |_=>none
 | .win b p off n=>
  match bx[b]? with
  |some (.sl _ r rows)=>(G3 r rows p).bind fun q=>if q.1.flat then some ⟨q.1,(q.2.drop off).take n,bx,9⟩else none
  |_=>none
 |_=>none
def mu(bx:List Bx)(x:AV):Option ((r:Ty)×(List r.D×List Bx×Nat)):=
 match x with
 | .ref b []=>
  match bx[b]? with
  |some (.sl d r rows)=>some ⟨r,rows,bx.set b .dead,d⟩
  |_=>none
 | .win b [] off n=>
  match bx[b]? with
  |some (.sl d r rows)=>some ⟨r,(rows.drop off).take n,bx.set b .dead,d⟩
  |_=>none
 |_=>none
def Jm.elem(T:Jm)(t:Nat):Option TI:=
 match(T.get t).map TI.desc with
 |some (.sl e)=>T.get e
 |_=>none
def Jm.NP(T:Jm)(t:Nat)(r:Ty):Bool:=
 match T.elem t with
 |some ti=>decide (ti.size=r.n)&&decide (ti.bytes≤512)&&decide (ti.row=some r)
 |none=>false
def Jm.isStr(T:Jm)(t:Nat):Bool:=
 match(T.get t).map TI.desc with
 |some .str=>true
 |_=>false
def Jm.AHQ(T:Jm)(t:Nat):Bool:=
 match(T.get t).map TI.desc with
 |some (.sl _)=>true
 |_=>false
def eL(T:Jm)(ts:Array TypeId)(σ:St)(a x:XV)(k:K Y):Option Y:=
 match ts[0]?,ts[1]? with
 |some t,some u=>
  if T.AHQ u||T.isStr u then
   match a,x with
   | .c .nil,.c y=>
    (mv σ.bx y).bind fun s=>if T.NP t s.1 then
     if s.2.1.length≤DA then k (.c (.ref s.2.2.1.length [])) { σ with bx:=s.2.2.1++[.sl s.2.2.2 s.1 s.2.1] }else none
     else none
   | .c a,.c y=>
    (mu σ.bx a).bind fun d=>if T.NP t d.1 then(mv d.2.2.1 y).bind fun s=>
     (QW (β:=fun r=>List r.D) s.1 d.1 s.2.1).bind fun rows=>
      if d.2.1.length+rows.length≤DA then
       k (.c (.ref s.2.2.1.length [])) { σ with bx:=s.2.2.1++[.sl (min d.2.2.2 s.2.2.2) d.1 (d.2.1++rows)] }
      else none
     else none
   |_,_=>none
  else none
 |_,_=>none
def kL(T:Jm)(ts:Array TypeId)(σ:St)(x:XV)(k:K Y):Option Y:=
 match ts[0]?,x with
 |some t,.c (.win b [] off n)=>
  match σ.bx[b]? with
  |some (.sl d r rows)=>if T.NP t r&&(r.flat&&decide (0<r.n))then k (.c .undef) { σ with bx:=σ.bx.set b (.sl d r ((rows.take off++List.replicate n r.z)++rows.drop (off+n))) }else none
  |_=>none
 |_,_=>none
def cy:XV→Option Int
 | .c (.v (.int _) n)=>some n
 |_=>none
def OQ(len:Nat)(lo hi:Option XV)(k:Nat→Nat→Option Y):Option Y:=
 let h:Option Int:=match hi with
  |none=>some (len:Int)
  |some x=>cy x
 let l:Option Int:=match lo with
  |none=>some 0
  |some x=>cy x
 match l,h with
 |some l,some h=>if 0≤l∧l≤h∧h≤(len:Int)then k l.toNat h.toNat else none
 |_,_=>none
def kO(T:Jm)(t:Nat)(σ:St)(x:XV)(lo hi:Option XV)(k:K Y):Option Y:=
 match x with
 | .c (.v .str s)=>if T.isStr t then OQ s.length lo hi fun l h=>k (.c (.v .str ((s.drop l).take (h-l)))) σ else none
 | .c (.sl s r rows)=>if T.NP t r then OQ rows.length lo hi fun l h=>k (.c (.sl s r ((rows.drop l).take (h-l)))) σ else none
 | .c (.ref b p)=>
  match NU σ.bx (.ref b p)with
  |some q=>if T.NP t q.1 then OQ q.2.length lo hi fun l h=>k (.c (.win b p l (h-l))) σ else none
  |none=>none
 |_=>none
def jZ(σ:St)(T:Jm)(t:Nat)(x i:XV)(k:K Y):Option Y:=
 match x,cy i with
 | .c (.sl s r rows),some i=>if T.NP t r then(if 0≤i∧i<(rows.length:Int)then k (.c (.PO s r (rowAt r rows i.toNat) 0)) σ else none)else none
 | .c (.ref b p),some i=>
  match NU σ.bx (.ref b p)with
  |some q=>if T.NP t q.1 then(if 0≤i∧i<(q.2.length:Int)then k (.c (.Je b p i.toNat q.1.n 0)) σ else none)else none
  |none=>none
 | .c (.win b p off n),some i=>
  match NU σ.bx (.ref b p)with
  |some q=>if T.NP t q.1 then(if 0≤i∧i<(n:Int)then k (.c (.Je b p (off+i.toNat) q.1.n 0)) σ else none)else none
  |none=>none
 |_,_=>none
def th(T:Jm)(t:Nat)(x:XV)(f:Nat):Option XV:=
 match T.get t with
 |some ⟨_,_,.st fs,_⟩=>
  match fs[f]? with
  |some (o,_)=>match x with
   | .c (.IX b j)=>some (.c (.IX b (j+o)))
   | .c (.Je b p i sz j)=>some (.c (.Je b p i sz (j+o)))
   | .c (.PO s r y j)=>some (.c (.PO s r y (j+o)))
   |_=>none
  |none=>none
 |_=>none
def ADm(T:Jm)(t:Nat)(x:XV)(f:Nat):Option XV:=
 match T.get t,x with
 |some ⟨_,_,.st fs,_⟩,.agg l=>
  match fs[f]? with
  |some (o,u)=>
   match T.get u with
   |some ti=>if ti.desc.agg then some (.agg ((l.drop o).take ti.size))else(l[o]?).map .c
   |none=>none
  |none=>none
 |_,_=>none
def qy(T:Jm)(src dst:Nat)(σ:St)(x:XV)(k:K Y):Option Y:=
 match(T.get src).map TI.desc,(T.get dst).map TI.desc,x with
 |some (.int _),some (.int κ),.c (.v (.int _) n)=>k (.c (.v (.int κ) (κ.wrap n))) σ
 |some .str,some .str,.c (.v .str s)=>k (.c (.v .str s)) σ
 |some .str,some (.sl e),.c (.v .str s)=>
  match(T.get e).map TI.desc with
  |some (.int .u8)=>if s.length≤DA then k (.c (.ref σ.bx.length [])) (σ.new (.sl 9 (.int .u8) (s.map fun c=>(c.toNat:Int))))else none
  |_=>none
 |some (.sl e),some .str,.c x=>
  match(T.get e).map TI.desc,Ms σ.bx (.sl (.int .u8)) x with
  |some (.int .u8),some l=>k (.c (.v .str (l.map fun n:Int=>UInt8.ofNat n.toNat))) σ
  |_,_=>none
 |_,_,_=>none
def rj(T:Jm)(t:Nat)(σ:St)(l c:XV)(k:K Y):Option Y:=
 match(T.get t).map TI.desc,cy l,cy c with
 |some (.sl e),some n,some m=>
  match Jm.iW T e with
  |some r=>if T.NP t r then(if 0≤n∧n≤m∧m≤(DA:Int)then k (.c (.ref σ.bx.length [])) (σ.new (.sl 9 r (List.replicate n.toNat r.z)))else none)else none
  |none=>none
 |_,_,_=>none
def gX(T:Jm)(fs:List ABj):List AV→List (Nat×XV)→Option (List AV)
 |cs,[]=>some cs
 |cs,(i,x)::l=>
  match fs[i]? with
  |some (o,u)=>
   match T.get u with
   |some ti=>if x.cells.length=ti.size∧ti.size≠0∧x.cells.all AV.known=true then(XZ cs o x.cells).bind fun cs=>gX T fs cs l else none
   |none=>none
  |none=>none
def YU(r:Ty):Nat→Nat→List (Nat×XV)→List Bx→Nat→Option (List r.D×List Bx×Nat)
 |_,0,[],bx,d=>some ([],bx,d)
 |i,n+1,(j,x)::l,bx,d=>
  if i=j then(ADP d r x bx).bind fun a=>(YU r (i+1) n l a.2.1 a.2.2).map fun b=>(a.1::b.1,b.2)else none
 |i,n+1,[],bx,d=>(YU r (i+1) n [] bx d).map fun b=>(r.z::b.1,b.2)
 |_,0,_::_,_,_=>none
def RH(T:Jm)(t n:Nat)(parts:List (Nat×XV))(σ:St)(k:K Y):Option Y:=
 match(T.get t).map TI.desc with
 |some (.sl e)=>
  match Jm.iW T e with
  |some r=>if T.NP t r&&decide (n≤1024)&&decide (r.n≤1024)then(YU r 0 n parts σ.bx 9).bind fun a=>k (.c (.ref a.2.1.length [])) { σ with bx:=a.2.1++[.sl a.2.2 r a.1] }else none
  |none=>none
 |_=>none
def Wb(T:Jm)(t:Nat)(σ:St)(x i:XV)(k:K Y):Option Y:=
 match x,cy i with
 | .c (.v .str s),some i=>if T.isStr t then if 0≤i∧i<(s.length:Int)then k (.c (.v (.int .u8) ((s.getD i.toNat 0).toNat:Int))) σ else none else none
 |_,_=>none
def pY(x:XV)(i:Nat):Option XV:=
 match x with
 | .NA l=>match l[i]? with
  |some (.inl a)=>some (.c a)
  |some (.inr q)=>some (.agg q)
  |none=>none
 |_=>none
def Ge(m:PZ):AV→AV
 | .ref b (s::p)=>if m.contains (some b)then .undef else .ref b (s::p)
 | .win b (s::p) i n=>if m.contains (some b)then .undef else .win b (s::p) i n
 | .Je b (s::p) i sz j=>if m.contains (some b)then .undef else .Je b (s::p) i sz j
 |x=>x
def U3(m:PZ):XV→XV
 | .c x=> .c (Ge m x)
 | .agg l=> .agg (l.map (Ge m))
 | .NA l=> .NA (l.map fun| .inl x=> .inl (Ge m x)| .inr q=> .inr (q.map (Ge m)))
def ACI(m:PZ):Bx→Bx
 | .mem cs=> .mem (cs.map (Ge m))
 |x=>x
def St.ZY(m:PZ)(σ:St):St:=
 match m with
 |[]=>σ
 |_::_=>{ tm:=σ.tm.map (U3 m),bx:=σ.bx.map (ACI m) }
def lK(c:Pj)(args:List XV)(σ:St)(k:K Y):Option Y:=
 if args.length=c.ins.Dr.length then
  match c.ins.fit σ.bx.length c.ins.m0 args (c.ins.opens σ.bx)with
  |some (v,m)=>(c.g v).bind fun u=>
   let Jc:=YP m (c.ins.opens σ.bx).length
   let σ1:=({ σ with bx:=c.ins.opens σ.bx }:St).ZY m
   k (eH c.outs.Dr u.1 Jc) { σ1 with bx:=Zz Jc 0 c.outs.Gr u.2 (Cs σ1.bx m) }
  |none=>none
 else none
def ar(σ:St)(x:XV)(k:K Y):Option Y:=
 match x with
 | .c (.win b [] off n)=>
  (mu σ.bx (.win b [] off n)).bind fun s=>k (.c (.ref s.2.2.1.length [])) { σ with bx:=s.2.2.1++[.sl s.2.2.2 s.1 s.2.1] }
 |x=>k x σ
def vp(l:List XV):Option AAs:=
 match l with
 |[]=>some []
 | .c (.IX b 0)::l=>(vp l).map fun r=>b::r
 |_=>none
def tO(big:Bool)(a b:XV)(k:AV→Option Y):Option Y:=
 match a,b with
 | .c (.v (.int j) x),.c (.v (.int j') y)=>
  if j=j' then(if big then k (.v (.int j) (if y>x then y else x))else k (.v (.int j) (if y<x then y else x)))else none
 |_,_=>none
def XE(T:Jm)(Γ:Nat→Option Pj)(o:Oper)(σ:St)(k:K Y):Option Y:=
 match o.op with
 | .move x=>k (σ.ev x) σ
 | .assign x=>ar σ (σ.ev x) k
 | .pick c a b=>match σ.ev c with
  | .c (.v .bool x)=>ABa x (σ.ev a) (σ.ev b) σ k
  |_=>none
 | .alloc t=>match Jm.iW T t with
  |some r=>k (.c (.IX σ.bx.length 0)) (σ.new (.mem (bM r)))
  |none=>none
 | .box t x=>match T.get t with
  |some ti=>if(σ.ev x).cells.length=ti.size∧ti.size≠0∧(σ.ev x).cells.all AV.known=true then k (.c (.IX σ.bx.length 0)) (σ.new (.mem (σ.ev x).cells))else none
  |none=>none
 | .build t parts=>match T.get t,Jm.iW T t with
  |some ⟨_,_,.st fs,_⟩,some r=>match gX T fs (bM r) (parts.toList.map fun q=>(q.1,σ.ev q.2))with
   |some cs=>k (.agg cs) σ
   |none=>none
  |_,_=>none
 | .buildSlice t n parts=>RH T t n (parts.toList.map fun q=>(q.1,σ.ev q.2)) σ k
 | .load t a=>match ln T t σ (σ.ev a)with
  |some x=>k x σ
  |none=>none
 | .store t a x=>match T.get t with
  |some ti=>if(σ.ev x).cells.length=ti.size∧ti.size≠0∧(σ.ev x).cells.all AV.known=true then(match L7 σ (σ.ev a) (σ.ev x)with
   |some σ=>k (.c .undef) σ
   |none=>none)else none
  |none=>none
 | .nilCheck x=>match σ.ev x with
  | .c (.IX b j)=>k (.c (.IX b j)) σ
  | .c (.Je b p i sz j)=>k (.c (.Je b p i sz j)) σ
  | .c (.PO s r y j)=>k (.c (.PO s r y j)) σ
  | .c (.fn f Kg)=>k (.c (.fn f Kg)) σ
  |_=>none
 | .binOp op t x y _=>vz T t op (σ.ev x) (σ.ev y) fun a=>k (.c a) σ
 | .unOp op _ x=>unX op (σ.ev x) fun a=>k (.c a) σ
 | .convert s d x=>qy T s d σ (σ.ev x) k
 | .makeFunc (.func f) first Kg=>if first.size=0 then(match vp (Kg.toList.map σ.ev)with
  |some bs=>k (.c (.fn f bs)) σ
  |none=>none)else none
 | .makeSlice t l c=>rj T t σ (σ.ev l) (σ.ev c) k
 | .slice t x lo hi none=>kO T t σ (σ.ev x) (lo.map σ.ev) (hi.map σ.ev) k
 | .fieldAddr t x f=>match th T t (σ.ev x) f with
  |some y=>k y σ
  |none=>none
 | .field t x f=>match ADm T t (σ.ev x) f with
  |some y=>k y σ
  |none=>none
 | .indexAddr t x i=>jZ σ T t (σ.ev x) (σ.ev i) k
 | .index t x i=>Wb T t σ (σ.ev x) (σ.ev i) k
 | .extract x i=>match pY (σ.ev x) i with
  |some y=>k y σ
  |none=>none
 | .call { callee:= .value f,args,.. }=>match σ.ev f with
  | .c (.fn f Kg)=>match Γ f with
   |some c=>lK c (args.toList.map σ.ev++Kg.map fun b=> .c (.IX b 0)) σ k
   |none=>none
  | .c (.qG f rows)=>match Γ f with
   |some c=>lK c (args.toList.map σ.ev++rows.map fun q=> .c (.PO false q.1 q.2 0)) σ k
   |none=>none
  |_=>none
 | .call { callee:= .builtin .len,args,argTypes }=>match args.toList.map σ.ev,argTypes[0]? with
  |[.c (.v .str s)],some t=>if T.isStr t then k (.c (.v (.int .i64) (s.length:Int))) σ else none
  |[.c x],some t=>if T.AHQ t then(match lenOf σ.bx x with
   |some n=>k (.c (.v (.int .i64) (n:Int))) σ
   |none=>none)else none
  |_,_=>none
 | .call { callee:= .builtin .append,args,argTypes }=>match args.toList.map σ.ev with
  |[a,x]=>eL T argTypes σ a x k
  |_=>none
 | .call { callee:= .builtin .clear,args,argTypes }=>match args.toList.map σ.ev with
  |[x]=>kL T argTypes σ x k
  |_=>none
 | .call { callee:= .builtin .max,args,.. }=>match args.toList.map σ.ev with
  |[a,x]=>tO true a x fun a=>k (.c a) σ
  |_=>none
 | .call { callee:= .builtin .min,args,.. }=>match args.toList.map σ.ev with
  |[a,x]=>tO false a x fun a=>k (.c a) σ
  |_=>none
 |_=>none
end ops
end Go.Fw
end
section
namespace Go.Fw
section
variable{Y:Type}
structure Zg where
 T:Jm
 Γ:Nat→Option Pj
 hint:Nat→List Nat
def gB(hint:AAs):XV→Bool
 | .c (.IX b _)=>hint.contains b
 | .c (.Je b _ _ _ _)=>hint.contains b
 | .c (.PO _ _ _ _)=>true
 |_=>false
def ij(hint:AAs)(σ:St):Op→Bool
 | .assign x=>match σ.ev x with
  | .c (.win _ [] _ _)=>false
  |_=>true
 | .move _| .pick .. | .nilCheck _| .binOp .. | .unOp .. | .fieldAddr .. | .field .. | .indexAddr .. | .index .. | .extract .. | .build .. =>true
 | .slice _ _ _ _ none=>true
 | .load _ a=>gB hint (σ.ev a)
 | .call { callee:= .builtin .len,.. }=>true
 | .call { callee:= .builtin .max,.. }=>true
 | .call { callee:= .builtin .min,.. }=>true
 |_=>false
def Kk(Γ:Nat→Option Pj)(σ:St):Op→List Nat
 | .store _ a _=>match σ.ev a with
  | .c (.IX b _)=>[b]
  | .c (.Je b _ _ _ _)=>[b]
  |_=>[]
 | .call { callee:= .value f,args,.. }=>match σ.ev f with
  | .c (.fn f Kg)=>match Γ f with
   |some c=>match c.ins.fit σ.bx.length c.ins.m0 (args.toList.map σ.ev++Kg.map fun b=> .c (.IX b 0)) (c.ins.opens σ.bx)with
    |some (_,m)=>m.filterMap id
    |none=>[]
   |none=>[]
  | .c (.qG f rows)=>match Γ f with
   |some c=>match c.ins.fit σ.bx.length c.ins.m0 (args.toList.map σ.ev++rows.map fun q=> .c (.PO false q.1 q.2 0)) (c.ins.opens σ.bx)with
    |some (_,m)=>m.filterMap id
    |none=>[]
   |none=>[]
  |_=>[]
 | .call { callee:= .builtin .clear,args,.. }=>match args.toList.map σ.ev with
  |[.c (.win b _ _ _)]=>[b]
  |_=>[]
 |_=>[]
def tt:XV:= .c (.v .bool true)
def ff:XV:= .c (.v .bool false)
def yO(C:Zg)(ops:Array Oper)(o:Oper)(kn:St→Option Y)(σ:St):Option Y:=
 match o.guard with
 |none=>XE C.T C.Γ o σ fun x σ' =>kn (σ'.put o.dst x)
 |some (j,want)=>
  match(ops[j]?).bind (·.dst)with
  |some t=>
   match σ.tm[t]? with
   |some (.c (.v .bool b))=>
    let yes (σ:St):Option Y:=XE C.T C.Γ o σ fun x σ' =>kn (σ'.put o.dst x)
    let no (σ:St):Option Y:=kn (σ.put o.dst (.NA []))
    cond b ((if want then yes else no) (σ.put (some t) tt)) ((if want then no else yes) (σ.put (some t) ff))
   |some (.NA [])=>kn (σ.put o.dst (.NA []))
   |_=>none
  |none=>none
def sQ(C:Zg)(all:Array Oper):List Oper→(St→Option Y)→St→Option Y
 |[],kn,σ=>kn σ
 |o::rest,kn,σ=>yO C all o (fun σ' =>sQ C all rest kn σ') σ
def yh(C:Zg)(ops:Array Oper)(i:Nat)(kn:St→Option Y)(σ:St):Option Y:=
 match ops[i]? with
 |none=>none
 |some o=>yO C ops o kn σ
def js(bx:List Bx)(b:Nat):Bool:=
 match bx[b]? with
 |some .dead=>true
 |some _=>false
 |none=>true
def idle(ops:Array Oper)(σ:St)(o:Oper):Bool:=
 match o.guard with
 |none=>false
 |some (j,want)=>
  match(ops[j]?).bind (·.dst)with
  |some t=>
   match σ.tm[t]? with
   |some (.c (.v .bool b))=>b !=want
   |some (.NA [])=>true
   |_=>false
  |none=>false
def pt(hint:AAs)(ops:Array Oper)(listed:Array Bool)(σ:St)(i:Nat):Bool:=
 match ops[i]? with
 |some o=>(ij hint σ o.op||idle ops σ o)&&Region.free .any ops listed i
 |none=>false
def tZ(f:Nat→List Bool→Option Y):List Nat→List Bool→Option Y
 |[],_=>none
 |[i],ω=>f i ω
 |i::_::_,[]=>f i []
 |i::_::_,true::ω=>f i ω
 |_::j::r,false::ω=>tZ f (j::r) ω
def UO(C:Zg)(hint:AAs)(ops:Array Oper)(kn:List Bool→St→Option Y):Nat→Array Bool→List Bool→St→Option Y
 |fuel,listed,ω,σ=>
  if hint.all (fun b=> !js σ.bx b)then
   match Region.ready .any ops listed with
   |[]=>kn ω σ
   |rs=>
    match fuel with
    |0=>none
    |fuel+1=>
     match rs.find? (pt hint ops listed σ)with
     |some i=>yh C ops i (fun σ' =>UO C hint ops kn fuel (listed.setIfInBounds i true) ω σ') σ
     |none=>tZ (fun i ω=>
      match ops[i]? with
      |some o=>if(Kk C.Γ σ o.op).all (fun b=> !hint.contains b)then yh C ops i (fun σ' =>UO C hint ops kn fuel (listed.setIfInBounds i true) ω σ') σ else none
      |none=>none) rs ω
  else none
def first:Code→Nat
 | .region id _ _=>id
 | .seq a _=>first a
 | .cond _ a _=>first a
 | .block _ a=>first a
 | .loop a=>first a
 | .scope a=>first a
 |_=>0
abbrev KN(Y:Type):=List Bool→St→Option Y
def run(C:Zg)(J:Nat→St→Option Y):Code→KN Y→(Nat→KN Y)→KN Y→KN Y
 | .skip,kn,_,_,ω,σ=>kn ω σ
 | .region id ops draw,kn,_,_,ω,σ=>
  if draw then(if Region.noSelect ops then UO C (C.hint id) ops kn ops.size (Array.replicate ops.size false) ω σ else none)else sQ C ops ops.toList (kn ω) σ
 | .seq a b,kn,kx,kr,ω,σ=>run C J a (fun ω σ=>run C J b kn kx kr ω σ) kx kr ω σ
 | .cond (.tmp t) a b,kn,kx,kr,ω,σ=>
  match σ.tm[t]? with
  |some (.c (.v .bool x))=>cond x (run C J a kn kx kr ω (σ.put (some t) tt)) (run C J b kn kx kr ω (σ.put (some t) ff))
  |_=>none
 | .block id body,kn,kx,kr,ω,σ=>run C J body kn (fun j ω σ=>if j=id then kn ω σ else kx j ω σ) kr ω σ
 | .loop body,_,_,_,_,σ=>J (first body) σ
 | .exit id,_,kx,_,ω,σ=>kx id ω σ
 | .ret,_,_,kr,ω,σ=>kr ω σ
 |_,_,_,_,_,_=>none
def find(C:Zg)(J:Nat→St→Option Y)(ℓ :Nat):Code→KN Y→(Nat→KN Y)→KN Y→Option (KN Y)
 | .seq a b,kn,kx,kr=>
  match find C J ℓ a (fun ω σ=>run C J b kn kx kr ω σ) kx kr with
  |some f=>some f
  |none=>find C J ℓ b kn kx kr
 | .cond _ a b,kn,kx,kr=>
  match find C J ℓ a kn kx kr with
  |some f=>some f
  |none=>find C J ℓ b kn kx kr
 | .block id body,kn,kx,kr=>find C J ℓ body kn (fun j ω σ=>if j=id then kn ω σ else kx j ω σ) kr
 | .loop body,_,kx,kr=>
  if first body= ℓ then some (fun ω σ=>run C J body (fun _ σ=>J ℓ σ) kx kr ω σ)else find C J ℓ body (fun _ σ=>J (first body) σ) kx kr
 |_,_,_,_=>none
def AB5(T:Jm)(σ:St):ResultVar→Option XV
 | .tmp t=>σ.tm[t]?
 | .cell a t=>match σ.tm[a]? with
  |some x=>ln T t σ x
  |none=>none
def uK:List XV→Option (List (AV ⊕ List AV))
 |[]=>some []
 | .c x::l=>(uK l).map fun r=> .inl x::r
 | .agg q::l=>(uK l).map fun r=> .inr q::r
 |_=>none
def gy(T:Jm)(σ:St)(rs:List ResultVar):Option XV:=
 match rs.mapM (AB5 T σ)with
 |some [x]=>some x
 |some l=>(uK l).map .NA
 |none=>none
def Tw:Nat→Nat→List BP→PZ
 |_,_,[]=>[]
 |i,n,p::l=>(match p with| .gone=>none|_=>if i<n then some i else none)::Tw (i+1) n l
def AV.pQ(b:Nat)(r:Ty)(rows:List r.D):AV→AV
 | .ref k []=>if k=b then .sl true r rows else .ref k []
 |x=>x
def XV.pQ(b:Nat)(r:Ty)(rows:List r.D):XV→XV
 | .c x=> .c (x.pQ b r rows)
 |x=>x
def Bx.pQ(b:Nat)(r:Ty)(rows:List r.D):Bx→Bx
 | .mem cs=> .mem (cs.map (AV.pQ b r rows))
 |x=>x
def St.pQ(b:Nat)(σ:St):St:=
 match σ.bx[b]? with
 |some (.sl _ r rows)=>{ tm:=σ.tm.map (XV.pQ b r rows),bx:=(σ.bx.set b .dead).map (Bx.pQ b r rows) }
 |_=>σ
def G7:List AP→List AV→St→St
 | .sl true _::l,.ref b []::xs,σ=>G7 l xs (σ.pQ b)
 |_::l,_::xs,σ=>G7 l xs σ
 |_,_,σ=>σ
def ae:List (AP ⊕ List AP)→List (AV ⊕ List AV)→St→St
 | .inl p::l,.inl x::xs,σ=>ae l xs (G7 [p] [x] σ)
 | .inr p::l,.inr x::xs,σ=>ae l xs (G7 p x σ)
 |_::l,_::xs,σ=>ae l xs σ
 |_,_,σ=>σ
def AUU:XP→XV→St→St
 | .c p,.c x,σ=>G7 [p] [x] σ
 | .agg l,.agg xs,σ=>G7 l xs σ
 | .NA l,.NA xs,σ=>ae l xs σ
 |_,_,σ=>σ
def je(l:List (Nat×XP))(x:XV)(σ:St):St:=
 match l with
 |(_,p)::_=>AUU p x σ
 |[]=>σ
def qd(T:Jm)(c:Pj)(rs:List ResultVar)(σ:St):Option c.outs.V:=
 (gy T σ rs).bind fun x=>
  let σ:=je c.outs.Dr x σ
  (gy T σ rs).bind fun x=>(c.outs.fit σ.bx.length (Tw 0 c.ins.Gr.length c.outs.Gr) [x] (c.outs.opens σ.bx)).map fun q=>q.1
def Cr(C:Zg)(c:Pj)(fn:Func)(J:Nat→St→Option c.outs.V)(ω:List Bool)(v:c.ins.V):Option c.outs.V:=
 match fn.body with
 |some code=>run C J code (fun _=>qd C.T c fn.results.toList) (fun _ _ _=>none) (fun _=>qd C.T c fn.results.toList) ω (c.ins.st fn.ntmps v)
 |none=>none
def HV(C:Zg)(c:Pj)(fn:Func)(J:Nat→St→Option c.outs.V)(ℓ :Nat)(ω:List Bool)(σ:St):Option c.outs.V:=
 match fn.body with
 |some code=>
  match find C J ℓ code (fun _=>qd C.T c fn.results.toList) (fun _ _ _=>none) (fun _=>qd C.T c fn.results.toList)with
  |some f=>f ω σ
  |none=>none
 |none=>none
def Pw(bs:List BP):List (Nat×XP)→St→St
 |[],σ=>σ
 |(i,.c (.sl true r))::l,σ=>
  match σ.tm[i]? with
  |some (.c x)=>Pw bs l (G7 [.sl true r] [x] σ)
  |_=>Pw bs l σ
 |(i,.c (.ptr k _))::l,σ=>
  match bs[k]?,σ.tm[i]? with
  |some (.mem ps),some (.c (.IX b _))=>
   match σ.bx[b]? with
   |some (.mem cs)=>Pw bs l (G7 ps cs σ)
   |_=>Pw bs l σ
  |_,_=>Pw bs l σ
 |_::l,σ=>Pw bs l σ
def AV.rK:AV→Bool
 | .ref _ _| .win _ _ _ _| .sl _ _ _| .nil=>true
 |_=>false
def St.forget(b j:Nat)(σ:St):St:=
 match σ.bx[b]? with
 |some (.mem cs)=>
  match cs[j]? with
  |some x=>if x.rK then{ σ with bx:=σ.bx.set b (.mem (cs.set j (.ref σ.bx.length [])))++[.dead] }else σ
  |none=>σ
 |_=>σ
def Wu(bs:List BP)(b:Nat):Nat→List AP→St→St
 |_,[],σ=>σ
 |j,p::l,σ=>Wu bs b (j+1) l (match p with
  | .ref q=>match bs[q]? with
   |some .gone=>σ.forget b j
   |_=>σ
  |_=>σ)
def cg(bs:List BP):List (Nat×XP)→St→St
 |[],σ=>σ
 |(i,p)::l,σ=>cg bs l (match p with
  | .c (.ptr k _)=>match bs[k]?,σ.tm[i]? with
   |some (.mem ps),some (.c (.IX b _))=>Wu bs b 0 ps σ
   |_,_=>σ
  |_=>σ)
def jump(nb:Nat)(s:A5)(f:s.V→Option Y)(σ:St):Option Y:=
 if nb≤s.Gr.length then
  let σ:=cg s.Gr s.Dr (Pw s.Gr s.Dr σ)
  (s.fit σ.bx.length (Tw 0 nb s.Gr) σ.tm (s.opens σ.bx)).bind fun q=>f q.1
 else none
end
end Go.Fw
end
section
namespace Go.Fw
def BT(w:World)(b o:Nat)(cs:List Value):Prop:= ∀j v,cs[j]? =some v→w.cell? ⟨b,o+j,none⟩=some v
def Rd(w:World)(B:Nat→Prop):(t:Ty)→List Value→t.D→Prop
 | .int k,vs,x=>vs=[.int k x]
 | .bool,vs,x=>vs=[.bool x]
 | .str,vs,x=>vs=[.string ⟨x.toArray⟩]
 | .sl r,vs,x=> ∃a cap,vs=[.slice a (List.length x) cap]∧List.length x≤cap∧(List.length x=0∨ ∃b o,a=some ⟨b,o,none⟩∧B b∧
  ∀(i:Nat) (y:r.D),x[i]? =some y→ ∃cs,cs.length=r.n∧BT w b (o+i*r.n) cs∧Rd w B r cs y)
 | .unit,vs,_=>vs=[]
 | .cons c r,vs,x=> ∃v l,vs=v::l∧Rd w B c [v] x.1∧Rd w B r l x.2
def v_(fr:ABj)(n:Nat):Prop:= ∀i,i<n→ ¬(fr.1≤i∧i<fr.2)
def mk:Ty→Nat
 | .int .u8=>0
 |_=>1
def Ow(w:World)(S:Nat→Prop):(d:Nat)→(t:Ty)→List Value→t.D→List Nat→Prop
 |0,.sl r,vs,x,F=>Rd w S (.sl r) vs x∧F=[]
 |d+1,.sl r,vs,x,F=> ∃a cap,vs=[.slice a (List.length x) cap]∧List.length x≤cap∧
  ((
   cap=0∧F=[])∨ ∃b o arr ty fr Fs,a=some ⟨b,o,none⟩∧w.heap[b]? =some (.cells arr ty fr)∧o+cap*r.n≤arr.size∧v_ fr (arr.size+mk r)∧
   F=b::List.flatten Fs∧Fs.length=List.length x∧
   ∀(i:Nat) (y:r.D) (G:AAs),x[i]? =some y→Fs[i]? =some G→ ∃cs,cs.length=r.n∧BT w b (o+i*r.n) cs∧Ow w S d r cs y G)
 |d,.cons c r,vs,x,F=> ∃v l F1 F2,vs=v::l∧F=F1++F2∧Ow w S d c [v] x.1 F1∧Ow w S d r l x.2 F2
 |_,.unit,vs,_,F=>vs=[]∧F=[]
 |_,.int k,vs,x,F=>vs=[.int k x]∧F=[]
 |_,.bool,vs,x,F=>vs=[.bool x]∧F=[]
 |_,.str,vs,x,F=>vs=[.string ⟨x.toArray⟩]∧F=[]
theorem kb{w B}:∀{t:Ty} {vs x},Rd w B t vs x→vs.length=t.n
 | .int _,_,_,h=>by simp only[Rd]at h;subst h;rfl
 | .bool,_,_,h=>by simp only[Rd]at h;subst h;rfl
 | .str,_,_,h=>by simp only[Rd]at h;subst h;rfl
 | .sl _,_,_,h=>by simp only[Rd]at h;obtain⟨_,_,h,_⟩:=h;subst h;rfl
 | .unit,_,_,h=>by simp only[Rd]at h;subst h;rfl
 | .cons _ _,_,_,h=>by
  simp only[Rd]at h;obtain⟨_,_,rfl,_,h⟩:=h;simp[Ty.n,kb h]
theorem Xh{w S}:∀{d} {t:Ty} {vs x F},Ow w S d t vs x F→vs.length=t.n
 |_,.int _,_,_,_,h=>by simp only[Ow]at h;rw[h.1];rfl
 |_,.bool,_,_,_,h=>by simp only[Ow]at h;rw[h.1];rfl
 |_,.str,_,_,_,h=>by simp only[Ow]at h;rw[h.1];rfl
 |0,.sl _,_,_,_,h=>by grind[Ow,kb]
 |_+1,.sl _,_,_,_,h=>by simp only[Ow]at h;obtain⟨_,_,h,_⟩:=h;subst h;rfl
 |_,.unit,_,_,_,h=>by simp only[Ow]at h;rw[h.1];rfl
 |_,.cons _ _,_,_,_,h=>by
  simp only[Ow]at h;obtain⟨_,_,_,_,rfl,_,_,h⟩:=h;simp[Ty.n,Xh h]
theorem BT.of_block{w w':World}{b o:Nat}{cs:List Value}(h:BT w b o cs)(hb:w'.heap[b]? =w.heap[b]?):BT w' b o cs:=
 fun j v hj=>(World.cell?_of_block (a:=⟨b,o+j,none⟩) hb).trans (h j v hj)
theorem Fa{w w':World}{B B':Nat→Prop}(hB:∀b,B b→B' b)(hw:∀b,B b→w'.heap[b]? =w.heap[b]?):∀{t:Ty} {vs x},Rd w B t vs x→Rd w' B' t vs x
 | .int _,_,_,h=>by grind[Rd]
 | .bool,_,_,h=>by grind[Rd]
 | .str,_,_,h=>by grind[Rd]
 | .unit,_,_,h=>by grind[Rd]
 | .sl r,_,_,h=>by
  simp only[Rd]at h⊢;obtain⟨a,cap,h1,h2,h3⟩:=h;refine⟨a,cap,h1,h2,h3.imp id ?_⟩
  rintro⟨b,o,ha,hb,h⟩
  refine⟨b,o,ha,hB b hb,fun i y hy=> ?_⟩;obtain⟨cs,hl,hc,hr⟩:=h i y hy;exact⟨cs,hl,hc.of_block (hw b hb),Fa hB hw hr⟩
 | .cons _ _,_,_,h=>by
  simp only[Rd]at h⊢;obtain⟨v,l,h1,h2,h3⟩:=h;exact⟨v,l,h1,Fa hB hw h2,Fa hB hw h3⟩
theorem EO{w w':World}{S S':Nat→Prop}(hS:∀b,S b→S' b)(hw:∀b,S b→w'.heap[b]? =w.heap[b]?):
  ∀{d} {t:Ty} {vs x F},(∀b∈F,w'.heap[b]? =w.heap[b]?)→Ow w S d t vs x F→Ow w' S' d t vs x F
 |_,.int _,_,_,_,_,h=>by grind[Ow]
 |_,.bool,_,_,_,_,h=>by grind[Ow]
 |_,.str,_,_,_,_,h=>by grind[Ow]
 |_,.unit,_,_,_,_,h=>by grind[Ow]
 |0,.sl r,_,_,_,_,h=>by
  grind[Ow,Fa]
 |d+1,.sl r,_,x,F,hF,h=>by
  simp only[Ow]at h⊢;obtain⟨a,cap,h1,h2,h3⟩:=h;refine⟨a,cap,h1,h2,h3.imp id ?_⟩
  rintro⟨b,o,arr,ty,fr,Fs,ha,hb,h4,h5,h6,h7,h⟩
  subst h6;have hbb:=hF b (by simp);refine⟨b,o,arr,ty,fr,Fs,ha,hbb.trans hb,h4,h5,rfl,h7,fun i y G hy hG=> ?_⟩;obtain⟨cs,hl,hc,hr⟩:=h i y G hy hG;refine⟨cs,hl,hc.of_block hbb,EO hS hw (fun c hc=>hF c ?_) hr⟩;grind[List.mem_cons_of_mem,List.mem_flatten,List.mem_of_getElem?]
 |_,.cons _ _,_,_,_,hF,h=>by
  simp only[Ow]at h⊢;obtain⟨v,l,F1,F2,h1,h2,h3,h4⟩:=h;subst h2;exact⟨v,l,F1,F2,h1,rfl,EO hS hw (fun c hc=>hF c (by simp[hc])) h3,EO hS hw (fun c hc=>hF c (by simp[hc])) h4⟩
theorem XH{w:World}{S:Nat→Prop}:∀{d} {t:Ty} {vs x F},Ow w S d t vs x F→Rd w (fun b=>S b∨b∈F) t vs x
 |_,.int _,_,_,_,h=>by grind[Ow,Rd]
 |_,.bool,_,_,_,h=>by grind[Ow,Rd]
 |_,.str,_,_,_,h=>by grind[Ow,Rd]
 |_,.unit,_,_,_,h=>by grind[Ow,Rd]
 |0,.sl r,_,_,_,h=>by
  simp only[Ow]at h;simp_all
 |d+1,.sl r,_,x,F,h=>by
  simp only[Ow]at h;simp only[Rd];obtain⟨a,cap,h1,h2,h3⟩:=h;refine⟨a,cap,h1,h2,?_⟩;rcases h3 with⟨hc,_⟩|⟨b,o,arr,ty,fr,Fs,ha,hb,h4,h5,h6,h7,h⟩
  ·omega
  ·refine .inr ⟨b,o,ha,.inr (by simp[h6]),fun i y hy=> ?_⟩
   have hi:i<Fs.length:=by
    grind
   obtain⟨cs,hl,hc,hr⟩:=h i y Fs[i] hy (ALD hi);refine⟨cs,hl,hc,Fa ?_ (fun _ _=>rfl) (XH hr)⟩;grind[List.mem_cons_of_mem,List.mem_flatten,List.getElem_mem]
 |_,.cons _ _,_,_,_,h=>by
  simp only[Ow]at h;simp only[Rd];obtain⟨v,l,F1,F2,h1,h2,h3,h4⟩:=h;subst h2;refine⟨v,l,h1,Fa ?_ (fun _ _=>rfl) (XH h3),Fa ?_ (fun _ _=>rfl) (XH h4)⟩
  all_goals grind
theorem KE{w:World}{S:Nat→Prop}:∀{d d'} {t:Ty} {vs x F},d≤d'→Ow w S d' t vs x F→
  ∃F1 F2,F.Perm (F1++F2)∧Ow w (fun b=>S b∨b∈F2) d t vs x F1
 |_,_,.int _,_,_,_,_,h=>by simp only[Ow]at h⊢;simp_all
 |_,_,.bool,_,_,_,_,h=>by simp only[Ow]at h⊢;simp_all
 |_,_,.str,_,_,_,_,h=>by simp only[Ow]at h⊢;simp_all
 |_,_,.unit,_,_,_,_,h=>by simp only[Ow]at h⊢;simp_all
 |0,d',.sl r,_,x,F,_,h=>by
  refine⟨[],F,by simp,?_⟩;simp only[Ow];exact⟨XH h,trivial⟩
 |d+1,0,.sl r,_,x,F,hd,h=>by omega
 |d+1,d'+1,.sl r,_,x,F,hd,h=>by
  simp only[Ow]at h⊢;obtain⟨a,cap,h1,h2,h3⟩:=h;rcases h3 with⟨hc,hF⟩|⟨b,o,arr,ty,fr,Fs,ha,hb,h4,h5,h6,h7,h⟩
  ·simp_all
  ·have key:∀(n:Nat) (Fs:List AAs) (y:List r.D),Fs.length=n→y.length=n→(∀(i:Nat) (z:r.D) (G:AAs),y[i]? =some z→Fs[i]? =some G→ ∃cs,cs.length=r.n∧BT w b (o+i*r.n) cs∧Ow w S d' r cs z G)→
     ∃(Gs:List AAs) (F2:AAs),Fs.flatten.Perm (Gs.flatten++F2)∧Gs.length=n∧ ∀(i:Nat) (z:r.D) (G:AAs),y[i]? =some z→Gs[i]? =some G→ ∃cs,cs.length=r.n∧BT w b (o+i*r.n) cs∧Ow w (fun b=>S b∨b∈F2) d r cs z G:=by
    intro n
    induction n with
    |zero=>
     simp_all
    |succ n ih=>
     intro Fs y hF hy hh;obtain⟨Fs',G0,rfl⟩:∃l a,Fs=l++[a]:=⟨Fs.dropLast,Fs.getLast (by grind),(List.dropLast_concat_getLast _).symm⟩;obtain⟨y',z0,rfl⟩:∃l a,y=l++[a]:=⟨y.dropLast,y.getLast (by grind),(List.dropLast_concat_getLast _).symm⟩;simp only[AOc,AN2,APp]at hF hy;obtain⟨Gs,F2,hp,hl,hg⟩:=ih Fs' y' (by omega) (by omega) (fun i z G hz hG=>hh i z G
      (by grind) (by grind))
     obtain⟨cs,YF,hc,ho⟩:=hh n z0 G0 (by simp_all) (by simp_all);obtain⟨H1,H2,hhp,hho⟩:=KE (d:=d) (d':=d') (by omega) ho;refine⟨Gs++[H1],F2++H2,?_,by simp[hl],?_⟩
     ·grind
     ·intro i z G hz hG
      by_cases hi:i<n
      ·rw[AOh (by omega)]at hz hG
       obtain⟨cs,e1,e2,e3⟩:=hg i z G hz hG;exact⟨cs,e1,e2,EO (by grind) (fun _ _=>rfl) (fun _ _=>rfl) e3⟩
      ·have:i=n:=by
        grind
       subst this;rw[APH (by omega)]at hz hG;simp[show i-y'.length=0 by omega,show i-Gs.length=0 by omega]at hz hG;subst hz hG;exact⟨cs,YF,hc,EO (by grind) (fun _ _=>rfl) (fun _ _=>rfl) hho⟩
   obtain⟨Gs,F2,hp,hl,hg⟩:=key _ Fs x h7 rfl h;refine⟨b::Gs.flatten,F2,?_,a,cap,h1,h2,.inr ⟨b,o,arr,ty,fr,Gs,ha,hb,h4,h5,rfl,hl,hg⟩⟩;simp_all
 |d,d',.cons _ _,_,_,_,hd,h=>by
  simp only[Ow]at h⊢;obtain⟨v,l,F1,F2,h1,h2,h3,h4⟩:=h;obtain⟨A1,A2,pa,oa⟩:=KE hd h3;obtain⟨B1,B2,pb,ob⟩:=KE hd h4;refine⟨A1++B1,A2++B2,?_,v,l,A1,B1,h1,rfl,EO (by grind) (fun _ _=>rfl) (fun _ _=>rfl) oa,EO (by grind) (fun _ _=>rfl) (fun _ _=>rfl) ob⟩;grind
def RB(w:World):(t:Ty)→List Value→t.D→Nat→Prop
 | .sl r,vs,x,c=> ∃b o len cap,vs=[.slice (some ⟨b,o,none⟩) len cap]∧0<List.length x∧
  (c=b∨ ∃(i:Nat) (y:r.D) (cs:List Value),x[i]? =some y∧cs.length=r.n∧BT w b (o+i*r.n) cs∧RB w r cs y c)
 | .cons c r,vs,x,d=> ∃v l,vs=v::l∧(RB w c [v] x.1 d∨RB w r l x.2 d)
 |_,_,_,_=>False
theorem BT.unique{w:World}{b o:Nat}{cs ds:List Value}(h:BT w b o cs)(k:BT w b o ds)(hl:cs.length=ds.length):cs=ds:=by
 apply List.ext_getElem hl;intro i h1 h2;have e1:=h i _ (ALD h1);have e2:=k i _ (ALD h2);simp_all
theorem ta{w:World}{B:Nat→Prop}{c:Nat}:∀{t:Ty} {vs x},Rd w B t vs x→RB w t vs x c→B c
 | .int _,_,_,_,h=>by simp[RB]at h
 | .bool,_,_,_,h=>by simp[RB]at h
 | .str,_,_,_,h=>by simp[RB]at h
 | .unit,_,_,_,h=>by simp[RB]at h
 | .sl r,_,x,h,k=>by
  simp only[Rd]at h;simp only[RB]at k;obtain⟨a,cap,rfl,_,h⟩:=h;obtain⟨b,o,len,cap',e,hl,k⟩:=k;simp only[APx,Value.slice.injEq,AQc]at e;obtain⟨rfl,rfl,rfl⟩:=e;rcases h with h|⟨b',o',e,hb,h⟩
  ·omega
  simp only[ALL,Addr.mk.injEq,AQc]at e;obtain⟨rfl,rfl⟩:=e;rcases k with rfl|⟨i,y,cs,hy,YF,hca,k⟩
  ·omega
  ·obtain⟨ds,d1,d2,d3⟩:=h i y hy
   have:=hca.unique d2 (by omega);subst this;exact ta d3 k
 | .cons _ _,_,_,h,k=>by
  simp only[Rd]at h;simp only[RB]at k;obtain⟨v,l,rfl,h1,h2⟩:=h;obtain⟨v',l',e,k⟩:=k;cases e;exact k.elim (ta h1) (ta h2)
theorem mz{w w':World}{c:Nat}:∀{t:Ty} {vs x},(∀d,RB w t vs x d→w'.heap[d]? =w.heap[d]?)→RB w t vs x c→RB w' t vs x c
 | .int _,_,_,_,h=>by simp[RB]at h
 | .bool,_,_,_,h=>by simp[RB]at h
 | .str,_,_,_,h=>by simp[RB]at h
 | .unit,_,_,_,h=>by simp[RB]at h
 | .sl r,_,x,h,k=>by
  simp only[RB]at h k⊢;obtain⟨b,o,len,cap,e,hl,k⟩:=k;refine⟨b,o,len,cap,e,hl,?_⟩;rcases k with rfl|⟨i,y,cs,hy,YF,hca,k⟩
  ·omega
  ·have hb:=h b ⟨b,o,len,cap,e,hl,.inl rfl⟩
   exact .inr ⟨i,y,cs,hy,YF,hca.of_block hb,mz (fun d hd=>h d ⟨b,o,len,cap,e,hl,.inr ⟨i,y,cs,hy,YF,hca,hd⟩⟩) k⟩
 | .cons _ _,_,_,h,k=>by
  simp only[RB]at h k⊢;obtain⟨v,l,e,k⟩:=k;refine⟨v,l,e,k.elim (fun k=> .inl (mz (fun d hd=>h d ⟨v,l,e,.inl hd⟩) k)) (fun k=> .inr (mz (fun d hd=>h d ⟨v,l,e,.inr hd⟩) k))⟩
end Go.Fw
end
section
namespace Go.Fw
def CR{α β:Type}(R:α→β→Prop):List α→List β→Prop
 |[],[]=>True
 |a::l,b::m=>R a b∧CR R l m
 |_,_=>False
theorem CR.len{α β:Type}{R:α→β→Prop}:∀{l:List α} {m:List β},CR R l m→l.length=m.length
 |[],[],_=>rfl
 |_::_,_::_,h=>by simp[CR.len h.2]
theorem CR.get{α β:Type}{R:α→β→Prop}:∀{l:List α} {m:List β} {i:Nat} {a:α},CR R l m→l[i]? =some a→ ∃b,m[i]? =some b∧R a b
 |_::_,_::_,0,a,h,e=>by simp at e;subst e;exact⟨_,rfl,h.1⟩
 |_::_,_::_,i+1,a,h,e=>by
  obtain⟨b,hb,hr⟩:=CR.get (i:=i) h.2 (by simpa using e);simp_all
 |[],[],_,_,_,e=>by simp at e
theorem CR.imp{α β:Type}{R S:α→β→Prop}(h:∀a b,R a b→S a b):∀{l:List α} {m:List β},CR R l m→CR S l m
 |[],[],_=>trivial
 |_::_,_::_,k=>⟨h _ _ k.1,CR.imp h k.2⟩
structure Env where
 Hz:Nat→Nat
 Hy:Nat→Value
 T:Nat→Prop
 S:Nat→Prop
def I2(w:World):Value→List ky→Option Value
 |h,[]=>some h
 | .slice (some a) _ _,s::p=>
  match w.cell? ⟨a.block,a.off+s.i*s.sz+s.j,none⟩with
  |some h=>I2 w h p
  |none=>none
 |_,_::_=>none
def C_:(r:Ty)→List r.D→List ky→Prop
 |_,_,[]=>True
 |r,rows,s::p=>s.i<rows.length∧s.sz=r.n∧
  match BK r s.j (rowAt r rows s.i)with
  |some ⟨.sl q,x⟩=>C_ q x p
  |_=>False
def VJ(sz off n:Nat)(a:Option Addr)(cap:Nat):Value:=
 .slice (if cap=off then a else a.map (·.add (off*sz))) n (cap-off)
def isSlice:Value→Bool
 | .slice .. =>true
 |_=>false
def bn:Value→Bool
 | .pointer (some ⟨_,_,none⟩)=>true
 |_=>false
def RA(E:Env)(w:World)(q:(r:Ty)×r.D)(p:Value):Prop:= ∃bb o cs,p= .pointer (some ⟨bb,o,none⟩)∧E.T bb∧cs.length=q.1.n∧BT w bb o cs∧Rd w E.T q.1 cs q.2
def VR(E:Env)(w:World)(vw:List Bx):AV→Value→Prop
 | .v t x,v=>t.scalar=true∧Rd w (fun _=>False) t [v] x
 | .sl s r x,v=>Rd w (if s then E.S else E.T) (.sl r) [v] x
 | .nil,v=>v= .slice none 0 0
 | .ref b p,v=>isSlice v=true∧match vw[b]? with
  |some (.sl _ r rows)=>C_ r rows p∧(∃q,G3 r rows p=some q)∧I2 w (E.Hy b) p=some v
  |some _=>True
  |none=>False
 | .win b p off n,v=>isSlice v=true∧match vw[b]? with
  |some (.sl _ r rows)=>C_ r rows p∧ ∃q ys a len cap,G3 r rows p=some ⟨q,ys⟩∧off+n≤List.length ys∧I2 w (E.Hy b) p=some (.slice a len cap)∧v=VJ q.n off n a cap
  |some _=>True
  |none=>False
 | .IX b j,v=>b<vw.length∧v= .pointer (some ⟨E.Hz b,j,none⟩)
 | .Je b p i sz j,v=>bn v=true∧match vw[b]? with
  |some (.sl _ r rows)=>C_ r rows p∧ ∃q ys bb o len cap,G3 r rows p=some ⟨q,ys⟩∧i<List.length ys∧I2 w (E.Hy b) p=some (.slice (some ⟨bb,o,none⟩) len cap)∧v= .pointer (some ⟨bb,o+i*sz+j,none⟩)
  |some _=>True
  |none=>False
 | .PO s r x j,v=> ∃bb o cs,v= .pointer (some ⟨bb,o+j,none⟩)∧(if s then E.S else E.T) bb∧cs.length=r.n∧BT w bb o cs∧Rd w (if s then E.S else E.T) r cs x
 | .fn f Kg,v=>(∀b∈Kg,b<vw.length)∧v= .func (.func f) #[] (Kg.map fun b=>Value.pointer (some ⟨E.Hz b,0,none⟩)).toArray
 | .qG f rows,v=> ∃ps:List Value,v= .func (.func f) #[] ps.toArray∧CR (RA E w) rows ps
 | .xB,v=>v= .pointer none
 | .undef,_=>True
def i7(E:Env)(w:World)(vw:List Bx)(l:List AV)(vs:List Value):Prop:=CR (VR E w vw) l vs
def TR(E:Env)(w:World)(vw:List Bx):AV ⊕ List AV→Value→Prop
 | .inl x,v=>VR E w vw x v
 | .inr q,v=> ∃vs,v= .agg vs∧i7 E w vw q vs.toList
def XR(E:Env)(w:World)(vw:List Bx):XV→Value→Prop
 | .c x,v=>VR E w vw x v
 | .agg l,v=> ∃vs,v= .agg vs∧i7 E w vw l vs.toList
 | .NA l,v=> ∃vs,v= .tuple vs∧CR (TR E w vw) l vs.toList
def pZ(E:Env)(w:World)(vw:List Bx)(k:Nat):Bx→List Nat→Prop
 | .mem cs,F=>F=[E.Hz k]∧ ∃arr ty fr,w.heap[E.Hz k]? =some (.cells arr ty fr)∧v_ fr (arr.size+1)∧i7 E w vw cs arr.toList
 | .sl d r rows,F=>1≤d∧Ow w E.S d (.sl r) [E.Hy k] rows F
 | .dead,F=>F=[]
structure Sep (E:Env) (w:World) (F:AAs):Prop where
 nodup:F.Nodup
 free:∀c∈F,¬E.T c
 lt:∀c∈F,c<w.heap.size
 st:∀c,E.S c→E.T c
 cX:∀c,E.T c→c<w.heap.size
def NV(E:Env)(w:World)(vw bx:List Bx)(Fs:List AAs):Prop:=
 Fs.length=bx.length∧ ∀k B F,bx[k]? =some B→Fs[k]? =some F→pZ E w vw k B F
def C7(E:Env)(w:World)(vw bx:List Bx)(G:AAs):Prop:=
 ∃Fs,NV E w vw bx Fs∧Sep E w (Fs.flatten++G)
structure Le (E E':Env):Prop where
 Hz:E'.Hz=E.Hz
 Hy:E'.Hy=E.Hy
 T:∀c,E.T c→E'.T c
 S:∀c,E.S c→E'.S c
 Tof:∀c,E'.T c→E.T c∨E'.S c
 yH:∀c,E'.S c→E.S c∨ ¬E.T c
theorem Le.refl(E:Env):Le E E:=⟨rfl,rfl,fun _ h=>h,fun _ h=>h,fun _ h=> .inl h,fun _ h=> .inl h⟩
theorem Le.trans{E E' E'':Env}(h:Le E E')(k:Le E' E''):Le E E'':=
 ⟨k.Hz.trans h.Hz,k.Hy.trans h.Hy,fun c hc=>k.T c (h.T c hc),fun c hc=>k.S c (h.S c hc),
  fun c hc=>(k.Tof c hc).elim (fun h' =>(h.Tof c h').imp id (k.S c)) .inr,
  fun c hc=>(k.yH c hc).elim (h.yH c) (fun h' => .inr fun ht=>h' (h.T c ht))⟩
theorem eU{w B}:∀{r:Ty} {cs x j t y},Rd w B r cs x→BK r j x=some ⟨t,y⟩→ ∃v,cs[j]? =some v∧Rd w B t [v] y
 | .cons c r,cs,x,0,t,y,h,e=>by
  simp only[Rd]at h;obtain⟨v,l,rfl,h1,h2⟩:=h;simp only[BK,ALL,ANo]at e;grind
 | .cons c r,cs,x,j+1,t,y,h,e=>by
  simp only[Rd]at h;obtain⟨v,l,rfl,h1,h2⟩:=h;simp only[BK]at e;obtain⟨u,hu,hr⟩:=eU h2 e;simp_all
 | .int k,cs,x,0,t,y,h,e=>by
  simp only[BK,ALL,ANo]at e;obtain⟨rfl,e⟩:=e;obtain rfl:=AQJ e;simp only[Rd]at h;subst h;exact⟨_,rfl,by rfl⟩
 | .bool,cs,x,0,t,y,h,e=>by
  simp only[BK,ALL,ANo]at e;obtain⟨rfl,e⟩:=e;obtain rfl:=AQJ e;simp only[Rd]at h;subst h;exact⟨_,rfl,by rfl⟩
 | .str,cs,x,0,t,y,h,e=>by
  simp only[BK,ALL,ANo]at e;obtain⟨rfl,e⟩:=e;obtain rfl:=AQJ e;simp only[Rd]at h;subst h;exact⟨_,rfl,by rfl⟩
 | .sl r,cs,x,0,t,y,h,e=>by
  simp only[BK,ALL,ANo]at e;obtain⟨rfl,e⟩:=e;obtain rfl:=AQJ e;have h':=h;simp only[Rd]at h;grind
 | .unit,_,_,_,_,_,_,e=>by simp[BK]at e
 | .int _,_,_,_+1,_,_,_,e=>by simp[BK]at e
 | .bool,_,_,_+1,_,_,_,e=>by simp[BK]at e
 | .str,_,_,_+1,_,_,_,e=>by simp[BK]at e
 | .sl _,_,_,_+1,_,_,_,e=>by simp[BK]at e
theorem Qs{r:Ty}{rows:List r.D}{i:Nat}(h:i<rows.length):rows[i]? =some (rowAt r rows i):=by
 simp[rowAt,h]
theorem mq{w:World}{B:Nat→Prop}:∀{p:List ky} {r:Ty} {h:Value} {rows:List r.D} {q:Ty} {ys:List q.D},
  Rd w B (.sl r) [h] rows→C_ r rows p→G3 r rows p=some ⟨q,ys⟩→
  ∃h',(∀w':World,(∀b,B b→w'.heap[b]? =w.heap[b]?)→I2 w' h p=some h')∧Rd w B (.sl q) [h'] ys
 |[],r,h,rows,q,ys,hr,_,hg=>by
  simp only[G3,ALL,ANo]at hg;obtain⟨rfl,e⟩:=hg;obtain rfl:=AQJ e;exact⟨h,fun w' _=>by rfl,hr⟩
 |s::p,r,h,rows,q,ys,hr,hp,hg=>by
  simp only[C_]at hp;obtain⟨hi,PQ,hp⟩:=hp;simp only[G3]at hg;simp only[Rd]at hr;obtain⟨a,cap,hh,_,hr⟩:=hr;obtain rfl:=(List.cons.inj hh).1;rcases hr with hr|⟨b,o,rfl,hb,hr⟩
  ·omega
  obtain⟨cs,hl,hc,hrow⟩:=hr s.i _ (Qs hi);split at hg
  ·rename_i q' x' gY
   rw[gY]at hp;obtain⟨v,hv,hrv⟩:=eU hrow gY;obtain⟨h',hh',Xu⟩:=mq hrv hp hg;refine⟨h',fun w' qw=> ?_,Xu⟩;simp only[I2];have Zy:w'.cell? ⟨b,o+s.i*s.sz+s.j,none⟩=some v:=by
    rw[PQ];exact(World.cell?_of_block (a:=⟨b,_,none⟩) (qw b hb)).trans (hc _ _ hv)
   simp_all
  simp_all
theorem C4{w:World}{h:Value}:I2 w h []=some h:=by rfl
structure Sz (E:Env) (w:World) (vw:List Bx) (E':Env) (w':World) (vw':List Bx):Prop where
 len:vw.length≤vw'.length
 Hz:∀b,b<vw.length→E'.Hz b=E.Hz b
 T:∀b,E.T b→E'.T b
 S:∀b,E.S b→E'.S b
 st:∀b,E.S b→E.T b
 heap:∀b,E.T b→w'.heap[b]? =w.heap[b]?
 box:∀b d r rows,b<vw.length→vw'[b]? =some (.sl d r rows)→ ∃d0 Rx,vw[b]? =some (.sl d0 r Rx)∧
  ∀p,C_ r Rx p→ ∀q ys,G3 r Rx p=some ⟨q,ys⟩→C_ r rows p∧(∃tw,G3 r rows p=some ⟨q,tw⟩∧List.length tw=List.length ys)∧
   ∀h,I2 w (E.Hy b) p=some h→I2 w' (E'.Hy b) p=some h
theorem PX{α:Type}{l l':List α}{b:Nat}{x:α}(h:l.length≤l'.length)(e:l[b]? =some x):∃y,l'[b]? =some y:=
 ⟨l'[b]'(AQZ (ALO.1 e).1 h),ALD _⟩
theorem GD{E E':Env}{w w':World}{vw vw':List Bx}(k:Sz E w vw E' w' vw'):∀{x:AV} {v:Value},VR E w vw x v→VR E' w' vw' x v:=by
 intro x v h;cases x with
 |v t x=>exact⟨h.1,Fa (fun _ h=>h) (fun _ h=>h.elim) h.2⟩
 |sl s r x=>
  simp only[VR]at h⊢;cases s with
  |false=>exact Fa k.T k.heap (by simp_all)
  |true=>exact Fa k.S (fun b hb=>k.heap b (k.st b hb)) (by simp_all)
 |nil=>exact h
 |ref b p=>
  simp only[VR]at h⊢;obtain⟨h0,h⟩:=h;refine⟨h0,?_⟩;cases e:vw[b]? with
  |none=>simp_all
  |some B=>
   rw[e]at h;have Hw:=(ALO.1 e).1;obtain⟨B',e'⟩:=PX k.len e;rw[e'];cases B' with
   |mem cs=>trivial
   |dead=>trivial
   |sl d r rows=>
    obtain⟨d0,Rx,e0,hk⟩:=k.box b d r rows Hw e';grind
 |win b p off n=>
  simp only[VR]at h⊢;obtain⟨h0,h⟩:=h;refine⟨h0,?_⟩;cases e:vw[b]? with
  |none=>simp_all
  |some B=>
   rw[e]at h;have Hw:=(ALO.1 e).1;obtain⟨B',e'⟩:=PX k.len e;rw[e'];cases B' with
   |mem cs=>trivial
   |dead=>trivial
   |sl d r rows=>
    obtain⟨d0,Rx,e0,hk⟩:=k.box b d r rows Hw e';grind
 |IX b j=>exact⟨AQZ h.1 k.len,by rw[h.2,k.Hz b h.1]⟩
 |Je b p i sz j=>
  simp only[VR]at h⊢;obtain⟨h0,h⟩:=h;refine⟨h0,?_⟩;cases e:vw[b]? with
  |none=>simp_all
  |some B=>
   rw[e]at h;have Hw:=(ALO.1 e).1;obtain⟨B',e'⟩:=PX k.len e;rw[e'];cases B' with
   |mem cs=>trivial
   |dead=>trivial
   |sl d r rows=>
    obtain⟨d0,Rx,e0,hk⟩:=k.box b d r rows Hw e';grind
 |PO s r x j=>
  simp only[VR]at h⊢;obtain⟨bb,o,cs,hv,hb,hl,hc,hr⟩:=h;cases s with
  |false=>exact⟨bb,o,cs,hv,k.T bb (by simp_all),hl,hc.of_block (k.heap bb (by simp_all)),Fa k.T k.heap (by simp_all)⟩
  |true=>exact⟨bb,o,cs,hv,k.S bb (by simp_all),hl,hc.of_block (k.heap bb (k.st bb (by simp_all))),Fa k.S (fun b hb=>k.heap b (k.st b hb)) (by simp_all)⟩
 |fn f Kg=>
  refine⟨fun b hb=>AQZ (h.1 b hb) k.len,?_⟩;rw[h.2];congr 2;exact AQs fun b hb=>by rw[k.Hz b (h.1 b hb)]
 |qG f rows=>
  obtain⟨ps,hv,h⟩:=h;exact⟨ps,hv,h.imp fun q p ⟨bb,o,cs,h1,h2,h3,h4,h5⟩=>⟨bb,o,cs,h1,k.T bb h2,h3,h4.of_block (k.heap bb h2),Fa k.T k.heap h5⟩⟩
 |xB=>exact h
 |undef=>trivial
theorem O_{E E':Env}{w w':World}{vw vw':List Bx}(k:Sz E w vw E' w' vw'):∀{x:XV} {v:Value},XR E w vw x v→XR E' w' vw' x v
 | .c _,_,h=>GD k h
 | .agg _,_,⟨vs,hv,h⟩=>⟨vs,hv,h.imp fun _ _ h=>GD k h⟩
 | .NA l,_,⟨vs,hv,h⟩=>⟨vs,hv,h.imp fun
  | .inl _,_,h=>GD k h
  | .inr _,_,⟨ws,hw,h⟩=>⟨ws,hw,h.imp fun _ _ h=>GD k h⟩⟩
theorem Sz.refl{E:Env}{w:World}{vw:List Bx}(st:∀b,E.S b→E.T b):Sz E w vw E w vw:=
 ⟨APM _,fun _ _=>rfl,fun _ h=>h,fun _ h=>h,st,fun _ _=>rfl,fun b d r rows _ h=>⟨d,rows,h,fun p hp q ys hg=>⟨hp,⟨ys,hg,rfl⟩,fun _ h=>h⟩⟩⟩
theorem Sz.trans{E E' E'':Env}{w w' w'':World}{vw vw' AUl:List Bx}(k:Sz E w vw E' w' vw')(k':Sz E' w' vw' E'' w'' AUl):Sz E w vw E'' w'' AUl where
 len:=AQL k.len k'.len
 Hz:=fun b hb=>(k'.Hz b (AQZ hb k.len)).trans (k.Hz b hb)
 T:=fun b h=>k'.T b (k.T b h)
 S:=fun b h=>k'.S b (k.S b h)
 st:=k.st
 heap:=fun b h=>(k'.heap b (k.T b h)).trans (k.heap b h)
 box:=fun b d r rows hb h=>by
  obtain⟨d1,AKm,h1,k1⟩:=k'.box b d r rows (AQZ hb k.len) h;obtain⟨d0,Rx,h0,k0⟩:=k.box b d1 r AKm hb h1;grind
theorem sx{w w':World}{S:Nat→Prop}{d:Nat}{r:Ty}{h:Value}{rows:List r.D}{F:AAs}(ho:Ow w S d (.sl r) [h] rows F)
  (hS:∀b,S b→w'.heap[b]? =w.heap[b]?) (hF:∀b∈F,w'.heap[b]? =w.heap[b]?) {p:List ky} (hp:C_ r rows p) {q:Ty} {ys:List q.D} (hg:G3 r rows p=some ⟨q,ys⟩)
  {h':Value} (hh:I2 w h p=some h'):I2 w' h p=some h':=by
 obtain⟨h1,k,_⟩:=mq (XH ho) hp hg;grind
end Go.Fw
end
section
namespace Go.Fw
theorem CR.set{α β:Type}{R:α→β→Prop}:∀{l:List α} {m:List β} {i:Nat} {a:α} {b:β},CR R l m→R a b→CR R (l.set i a) (m.set i b)
 |[],[],_,_,_,_,_=>trivial
 |_::_,_::_,0,_,_,h,r=>⟨r,h.2⟩
 |_::_,_::_,i+1,_,_,h,r=>⟨h.1,CR.set h.2 r⟩
theorem CR.append{α β:Type}{R:α→β→Prop}:∀{l:List α} {m:List β} {l':List α} {m':List β},CR R l m→CR R l' m'→CR R (l++l') (m++m')
 |[],[],_,_,_,h=>h
 |_::_,_::_,_,_,h,k=>⟨h.1,CR.append h.2 k⟩
theorem CR.Ly{α β γ:Type}{R:α→β→Prop}{S:γ→β→Prop}(f:α→γ)(h:∀a b,R a b→S (f a) b):∀{l:List α} {m:List β},CR R l m→CR S (l.map f) m
 |[],[],_=>trivial
 |_::_,_::_,k=>⟨h _ _ k.1,CR.Ly f h k.2⟩
theorem CR.drop{α β:Type}{R:α→β→Prop}:∀{l:List α} {m:List β} (n:Nat),CR R l m→CR R (l.drop n) (m.drop n)
 |_,_,0,h=>h
 |[],[],_+1,_=>trivial
 |_::_,_::_,n+1,h=>CR.drop n h.2
theorem CR.take{α β:Type}{R:α→β→Prop}:∀{l:List α} {m:List β} (n:Nat),CR R l m→CR R (l.take n) (m.take n)
 |[],[],0,_=>trivial
 |_::_,_::_,0,_=>trivial
 |[],[],_+1,_=>trivial
 |_::_,_::_,n+1,h=>⟨h.1,CR.take n h.2⟩
structure cl (E0:Env) (w0:World) (E:Env) (w:World):Prop where
 T:∀c,E0.T c→E.T c
 S:∀c,E0.S c→E.S c
 Tof:∀c,E.T c→E0.T c∨E.S c
 yH:∀c,E.S c→E0.S c∨ ¬E0.T c
 heap:∀c,E0.T c→w.heap[c]? =w0.heap[c]?
 os:w.os=w0.os
 tape:w.tape=w0.tape
 output:w.output=w0.output
 size:w0.heap.size≤w.heap.size
theorem cl.refl(E:Env)(w:World):cl E w E w:=⟨fun _ h=>h,fun _ h=>h,fun _ h=> .inl h,fun _ h=> .inl h,fun _ _=>rfl,rfl,rfl,rfl,APM _⟩
theorem cl.trans{E E' E'':Env}{w w' w'':World}(h:cl E w E' w')(k:cl E' w' E'' w''):cl E w E'' w'':=
 ⟨fun c hc=>k.T c (h.T c hc),fun c hc=>k.S c (h.S c hc),fun c hc=>(k.Tof c hc).elim (fun h' =>(h.Tof c h').imp id (k.S c)) .inr,
  fun c hc=>(k.yH c hc).elim (h.yH c) (fun h' => .inr fun ht=>h' (h.T c ht)),fun c hc=>(k.heap c (h.T c hc)).trans (h.heap c hc),
  k.os.trans h.os,k.tape.trans h.tape,k.output.trans h.output,AQL h.size k.size⟩
theorem Le.base{E E':Env}(h:Le E E')(w:World):cl E w E' w:=⟨h.T,h.S,h.Tof,h.yH,fun _ _=>rfl,rfl,rfl,rfl,APM _⟩
def wF(E:Env)(w:World)(k:Nat):Bx→Nat→Prop
 | .mem _,c=>c=E.Hz k
 | .sl _ r rows,c=>RB w (.sl r) [E.Hy k] rows c
 | .dead,_=>False
def VB:Bx→Bx→Prop
 | .mem _,.mem _=>True
 | .sl _ r x,.sl _ q y=>(⟨r,x⟩:(r:Ty)×List r.D)=⟨q,y⟩
 |_,_=>False
structure RP (t:AAs) (E0:Env) (bx0:List Bx) (w0:World) (E:Env) (bx:List Bx) (w:World):Prop where
 base:cl E0 w0 E w
 len:bx0.length≤bx.length
 ids:∀b,b<bx0.length→E.Hz b=E0.Hz b∧E.Hy b=E0.Hy b
 dead:∀b:Nat,bx0[b]? =some Bx.dead→bx[b]? =some Bx.dead
 frame:∀(n:Nat) B B',n∉t→bx0[n]? =some B→bx[n]? =some B'→B'≠ .dead→VB B B'∧ ∀c,wF E0 w0 n B c→w.heap[c]? =w0.heap[c]?
theorem RP.any{E E':Env}{bx Qd:List Bx}{w w':World}(h:RP [] E bx w E' Qd w'){t:AAs}:RP t E bx w E' Qd w':=
 ⟨h.base,h.len,h.ids,h.dead,fun n B B' _=>h.frame n B B' (by simp)⟩
theorem VB.refl{B:Bx}(h:B≠ .dead):VB B B:=by cases B<;>simp_all[VB]
theorem RP.refl(t:AAs)(E:Env)(bx:List Bx)(w:World):RP t E bx w E bx w:=⟨cl.refl E w,APM _,fun _ _=>⟨rfl,rfl⟩,fun _ h=>h,fun n B B' _ h h' hd=>by
 rw[h]at h';cases h';exact⟨VB.refl hd,fun _ _=>rfl⟩⟩
theorem eG{E:Env}{w:World}{vw:List Bx}{k:Nat}{B:Bx}{F:AAs}{c:Nat}(h:pZ E w vw k B F)(hc:wF E w k B c):E.S c∨c∈F:=by
 cases B with
 |mem cs=>obtain⟨rfl,_⟩:=h;grind[wF]
 |sl d r rows=>exact ta (XH h.2) hc
 |dead=>exact hc.elim
structure Rel (E:Env) (σ:St) (a:Act) (w:World):Prop where
 Ns:a.defers=[]
 tm:CR (XR E w σ.bx) σ.tm a.tmps.toList
 bx:C7 E w σ.bx σ.bx []
theorem Rel.put{E:Env}{σ:St}{a:Act}{w:World}(h:Rel E σ a w)(dst:Option Tmp){x:XV}{v:Value}(hx:XR E w σ.bx x v):Rel E (σ.put dst x) (a.put dst v) w:=by
 cases dst with
 |none=>exact h
 |some d=>exact⟨h.Ns,by simpa[St.put,Act.put]using CR.set h.tm hx,h.bx⟩
theorem CR.ANu{E:Env}{w:World}{vw:List Bx}{l:List XV}{m:Array Value}(h:CR (XR E w vw) l m.toList)(t:Nat):XR E w vw (l.getD t (.c .undef)) (m.getD t undef):=by
 by_cases ht:t<l.length
 ·have e:l[t]? =some l[t]:=ALD ht
  obtain⟨b,hb,hr⟩:=h.get e;simp_all
 ·have e:l[t]? =none:=by simp_all
  simp only[List.getD_eq_getElem?_getD,e,Option.getD_none]
  trivial
theorem rS{E:Env}{w:World}{vw:List Bx}(v:Value):VR E w vw (p7 v) v:=by
 unfold p7;split<;>first
  |trivial
  |exact⟨rfl,by simp[Rd]⟩
  |rfl
theorem ld{E:Env}{w:World}{vw:List Bx}:∀(l:List Value),i7 E w vw (l.map p7) l
 |[]=>trivial
 |a::l=>⟨rS a,ld l⟩
theorem xe{E:Env}{w:World}{vw:List Bx}(v:Value):XR E w vw (ofValue v) v:=by
 unfold ofValue;split
 ·rename_i cs
  exact⟨cs,rfl,ld cs.toList⟩
 ·exact rS v
theorem Rel.ev{E:Env}{σ:St}{a:Act}{w:World}(h:Rel E σ a w)(x:Operand):XR E w σ.bx (σ.ev x) (a.eval x):=by
 cases x with
 |tmp t=>exact CR.ANu h.tm t
 |const v=>exact xe v
 |global g=>trivial
 |func f=>exact⟨by simp,rfl⟩
theorem Un{b:Nat}:∀{Fs:List AAs} {F:AAs},Fs[b]? =some F→Fs.flatten.Perm (F++(Fs.set b []).flatten):=by
 induction b with
 |zero=>
  intro Fs F h;cases Fs with
  |nil=>simp at h
  |cons A l=>simp_all
 |succ b ih=>
  intro Fs F h;cases Fs with
  |nil=>simp at h
  |cons A l=>
   grind
theorem Sep.perm{E:Env}{w:World}{F F':AAs}(h:Sep E w F)(p:F.Perm F'):Sep E w F':=
 ⟨p.nodup_iff.1 h.nodup,fun c hc=>h.free c (p.mem_iff.2 hc),fun c hc=>h.lt c (p.mem_iff.2 hc),h.st,h.cX⟩
theorem Sep.sub{E:Env}{w:World}{F F':AAs}(h:Sep E w (F++F')):Sep E w F:=
 ⟨(AOA.1 h.nodup).1,fun c hc=>h.free c (by simp[hc]),fun c hc=>h.lt c (by simp[hc]),h.st,h.cX⟩
theorem C7.perm{E:Env}{w:World}{vw bx:List Bx}{G G':AAs}(h:C7 E w vw bx G)(p:G.Perm G'):C7 E w vw bx G':=
 let⟨Fs,h1,h2⟩:=h
 ⟨Fs,h1,h2.perm (ASu _ p)⟩
theorem C7.drop{E:Env}{w:World}{vw bx:List Bx}{G G':AAs}(h:C7 E w vw bx (G++G')):C7 E w vw bx G:=
 let⟨Fs,h1,h2⟩:=h
 ⟨Fs,h1,by rw[←ANi]at h2;exact h2.sub⟩
theorem C7.st{E:Env}{w:World}{vw bx:List Bx}{G:AAs}(h:C7 E w vw bx G):∀c,E.S c→E.T c:=let⟨_,_,h⟩:=h;h.st
theorem C7.cX{E:Env}{w:World}{vw bx:List Bx}{G:AAs}(h:C7 E w vw bx G):∀c,E.T c→c<w.heap.size:=let⟨_,_,h⟩:=h;h.cX
theorem C7.ACO{E:Env}{w:World}{vw bx:List Bx}{G:AAs}(h:C7 E w vw bx G):∀c∈G,¬E.T c:=let⟨_,_,h⟩:=h;fun c hc=>h.free c (by simp[hc])
theorem C7.take{E:Env}{w:World}{vw bx:List Bx}{G:AAs}(h:C7 E w vw bx G){b:Nat}{B:Bx}(hb:bx[b]? =some B):
  ∃F,pZ E w vw b B F∧C7 E w vw (bx.set b .dead) (F++G):=by
 obtain⟨Fs,⟨hl,h1⟩,h2⟩:=h;have Hw:=(ALO.1 hb).1;have hF:Fs[b]? =some (Fs[b]'(by omega)):=ALD _;refine⟨_,h1 b B _ hb hF,Fs.set b [],⟨by simp_all,fun k C F hk hkF=> ?_⟩,h2.perm ?_⟩
 ·by_cases e:k=b
  ·subst e
   rw[AQl (by omega)]at hk hkF;cases hk;cases hkF;rfl
  grind
 grind[List.Perm.append_right,Un,List.append_assoc,List.perm_append_comm,trans,List.Perm.append_left]
theorem C7.put{E:Env}{w:World}{vw bx:List Bx}{F G:AAs}(h:C7 E w vw bx (F++G)){b:Nat}{B:Bx}(hb:bx[b]? =some .dead)(hB:pZ E w vw b B F):
  C7 E w vw (bx.set b B) G:=by
 obtain⟨Fs,⟨hl,h1⟩,h2⟩:=h;have Hw:=(ALO.1 hb).1;have hF:Fs[b]? =some (Fs[b]'(by omega)):=ALD _;have e0:Fs[b]'(by omega)=[]:=h1 b _ _ hb hF;refine⟨Fs.set b F,⟨by simp_all,fun k C F' hk hkF=> ?_⟩,h2.perm ?_⟩
 ·grind
 ·have p:(Fs.set b F).flatten.Perm (F++Fs.flatten):=by
   have p1:=Un (Fs:=Fs.set b F) (b:=b) (F:=F) (AQl (by omega));rw[AUf]at p1;have p2:=Un hF;grind
  grind
theorem C7.push{E:Env}{w:World}{vw bx:List Bx}{F G:AAs}(h:C7 E w vw bx (F++G)){B:Bx}(hB:pZ E w vw bx.length B F):
  C7 E w vw (bx++[B]) G:=by
 obtain⟨Fs,⟨hl,h1⟩,h2⟩:=h;refine⟨Fs++[F],⟨by simp[hl],fun k C F' hk hkF=> ?_⟩,h2.perm (by simp)⟩;grind
theorem C7.turn{E E':Env}{w w':World}{vw vw' bx:List Bx}{G:AAs}(h:C7 E w vw bx G)(k:∀x v,VR E w vw x v→VR E' w' vw' x v)
  (hS:∀c,E.S c→E'.S c) (ACg:∀b,b<bx.length→E'.Hz b=E.Hz b) (mG:∀b,b<bx.length→E'.Hy b=E.Hy b)
  (hw:∀c,(E.S c∨(¬E.T c∧c∉G))→c<w.heap.size→w'.heap[c]? =w.heap[c]?)
  (ACe:∀F,Sep E w (F++G)→Sep E' w' (F++G)):C7 E' w' vw' bx G:=by
 obtain⟨Fs,⟨hl,h1⟩,h2⟩:=h;refine⟨Fs,⟨hl,fun n B F hn hF=> ?_⟩,ACe _ h2⟩;have Hw:=(ALO.1 hn).1;have h3:=h1 n B F hn hF;have ALz:∀c∈F,c∈Fs.flatten:=fun c hc=>AQP.2 ⟨F,AO9 hF,hc⟩
 have hFw:∀c∈F,w'.heap[c]? =w.heap[c]?:=fun c hc=>hw c (.inr ⟨h2.free c (by simp_all),fun hg=>by
  have:=(AOA.1 h2.nodup).2.2 c (ALz c hc) c hg;omega⟩) (h2.lt c (by simp_all))
 have rN:∀c,E.S c→w'.heap[c]? =w.heap[c]?:=fun c hc=>hw c (.inl hc) (h2.cX c (h2.st c hc))
 cases B with
 |mem cs=>
  obtain⟨rfl,arr,ty,fr,ha,hu,hv⟩:=h3;refine⟨by simp_all,arr,ty,fr,?_,hu,hv.imp k⟩;simp_all
 |sl d r rows=>
  obtain⟨hd,ho⟩:=h3;refine⟨hd,?_⟩;grind[EO]
 |dead=>exact h3
end Go.Fw
end
section
namespace Go.Fw
theorem ID{β:Ty→Type}{a b:Ty}{x:β a}{y:β b}(h:QW a b x=some y):∃e:a=b,e▸x=y:=by
 grind[QW]
def FG(bk vw:List Bx):Prop:= ∀(b:Nat) (B:Bx),bk[b]? =some B→B= .dead∨vw[b]? =some B
theorem FG.refl(bx:List Bx):FG bx bx:=fun _ _ h=> .inr h
theorem Addr.add_eq(b o n:Nat):(⟨b,o,none⟩:Addr).add n=⟨b,o+n,none⟩:=by grind[Addr.add]
theorem xh{w:World}{B:Nat→Prop}{r:Ty}{a:Option Addr}{len cap:Nat}{ys:List r.D}(h:Rd w B (.sl r) [.slice a len cap] ys){off n:Nat}(hn:off+n≤ys.length):
  Rd w B (.sl r) [VJ r.n off n a cap] ((ys.drop off).take n):=by
 simp only[Rd]at h⊢;obtain⟨a',cap',e,hc,h⟩:=h;simp only[APx,Value.slice.injEq,AQc]at e;obtain⟨rfl,rfl,rfl⟩:=e;have hl:((ys.drop off).take n).length=n:=by grind
 refine⟨_,_,by unfold VJ;rw[hl],by omega,?_⟩;rw[hl];by_cases h0:n=0
 ·omega
 ·rcases h with h|⟨b,o,rfl,hb,h⟩
  ·omega
  ·refine .inr ⟨b,o+off*r.n,?_,hb,fun i y hy=> ?_⟩
   ·rw[ALG (by omega)]
    simp[Addr.add_eq]
   grind
def pE(E:Env)(Fs:List AAs)(c:Nat):Prop:=E.T c∨c∈Fs.flatten
section
variable{E:Env} {w:World} {vw bk:List Bx} {Fs:List AAs}
theorem NV.get(h:NV E w vw bk Fs){b:Nat}{B:Bx}(e:bk[b]? =some B):∃F,pZ E w vw b B F∧ ∀c∈F,c∈Fs.flatten:=by
 have Hw:=(ALO.1 e).1;have hF:Fs[b]? =some (Fs[b]'(by rw[h.1];omega)):=ALD _;exact⟨_,h.2 b B _ e hF,fun c hc=>AQP.2 ⟨_,AO9 hF,hc⟩⟩
theorem dh(hs:FG bk vw)(h:NV E w vw bk Fs)(st:∀c,E.S c→E.T c){b d:Nat}{r:Ty}{rows:List r.D}(e:bk[b]? =some (.sl d r rows))
  {p:List ky} (hp:C_ r rows p) {q:Ty} {ys:List q.D} (hg:G3 r rows p=some ⟨q,ys⟩) {v:Value} (hh:I2 w (E.Hy b) p=some v):
  Rd w (pE E Fs) (.sl q) [v] ys:=by
 obtain⟨F,⟨_,ho⟩,hF⟩:=h.get e;obtain⟨h',k,hr⟩:=mq (XH ho) hp hg;have:=k w (fun _ _=>rfl);rw[hh]at this;cases this;exact Fa (fun c hc=>hc.elim (fun hc=> .inl (st c hc)) (fun hc=> .inr (hF c hc))) (fun _ _=>rfl) hr
theorem YW(hs:FG bk vw){b d:Nat}{r:Ty}{rows:List r.D}(e:bk[b]? =some (.sl d r rows)):vw[b]? =some (.sl d r rows):=by
 rcases hs b _ e with h|h
 all_goals simp_all
theorem Z7(hs:FG bk vw)(h:NV E w vw bk Fs)(st:∀c,E.S c→E.T c){x:AV}{v:Value}(hv:VR E w vw x v){q:Ty}{ys:List q.D}(e:NU bk x=some ⟨q,ys⟩):
  Rd w (pE E Fs) (.sl q) [v] ys:=by
 cases x with
 |sl s r x=>
  simp only[NU,ALL,ANo]at e;obtain⟨rfl,e⟩:=e;obtain rfl:=AQJ e;simp only[VR]at hv;refine Fa (fun c hc=> ?_) (fun _ _=>rfl) hv;cases s
  ·exact .inl (by simp_all)
  ·exact .inl (st c (by simp_all))
 |ref b p=>
  grind[NU,VR,YW,dh]
 |win b p off n=>
  simp only[NU]at e;split at e
  ·rename_i d r rows hb
   simp only[VR,YW hs hb]at hv;obtain⟨_,hp,q',tw,a,len,cap,hg,hl,hh,rfl⟩:=hv;rw[hg]at e;simp only[Option.map_some,ALL,ANo]at e;obtain⟨rfl,e⟩:=e;obtain rfl:=AQJ e;grind[xh,dh]
  simp_all
 |_=>simp[NU]at e
theorem U2(hs:FG bk vw)(h:NV E w vw bk Fs)(st:∀c,E.S c→E.T c){t:Ty}{x:AV}{v:Value}(hv:VR E w vw x v){y:t.D}(e:Ms bk t x=some y):
  Rd w (pE E Fs) t [v] y:=by
 have sl:∀(r:Ty) (x:AV) (v:Value) (y:List r.D),VR E w vw x v→((NU bk x).bind fun q=>QW (β:=fun r=>List r.D) q.1 r q.2)=some y→Rd w (pE E Fs) (.sl r) [v] y:=by
  grind[Option.bind_eq_some_iff,ID,Z7]
 cases x with
 |v u z=>
  simp only[Ms]at e;obtain⟨e1,e2⟩:=ID e;subst e1;subst e2;exact Fa (fun _ hc=>hc.elim) (fun _ hc=>hc.elim) hv.2
 |nil=>
  cases t with
  |sl r=>
   simp only[Ms,ALL]at e;subst e;simp only[VR]at hv;subst hv;simp only[Rd];simp_all
  |_=>simp[Ms]at e
 |_=>
  cases t with
  |sl r=>exact sl r _ _ y hv (by simpa only[Ms]using e)
  |_=>simp[Ms]at e
theorem fu(hs:FG bk vw)(h:NV E w vw bk Fs)(st:∀c,E.S c→E.T c):∀{r:Ty} {l:List AV} {vs:List Value} {x:r.D},i7 E w vw l vs→H8 bk r l=some x→
  Rd w (pE E Fs) r vs x
 | .unit,[],[],x,_,_=>by rfl
 | .cons c r,a::l,v::vs,x,hv,e=>by
  simp only[H8,ALe,ALN]at e;obtain⟨y,e1,z,e2,rfl⟩:=e;simp only[Rd];exact⟨v,vs,rfl,U2 hs h st hv.1 e1,fu hs h st hv.2 e2⟩
 | .unit,_::_,_,_,_,e=>by simp[H8]at e
 | .unit,[],_::_,_,hv,_=>hv.elim
 | .cons _ _,[],_,_,_,e=>by simp[H8]at e
 | .cons _ _,_::_,[],_,hv,_=>hv.elim
 | .int _,_,_,_,_,e=>by simp[H8]at e
 | .bool,_,_,_,_,e=>by simp[H8]at e
 | .str,_,_,_,_,e=>by simp[H8]at e
 | .sl _,_,_,_,_,e=>by simp[H8]at e
theorem hI{E1:Env}{wJ:List Bx}(hs:FG bk vw)(h:NV E w vw bk Fs)(st:∀c,E.S c→E.T c)(hT:∀c,pE E Fs c→E1.T c):
  ∀{r:Ty} {l:List AV} {vs:List Value} {x:r.D},i7 E w vw l vs→H8 bk r l=some x→i7 E1 w wJ (oX r x) vs
 | .unit,[],[],x,_,_=>trivial
 | .cons c r,a::l,v::vs,x,hv,e=>by
  simp only[H8,ALe,ALN]at e;obtain⟨y,e1,z,e2,rfl⟩:=e;have Xu:=U2 hs h st hv.1 e1;have tl:i7 E1 w wJ _ _:=hI hs h st hT hv.2 e2;cases c with
  |sl q=>
   refine⟨?_,tl⟩;simp only[VR];exact Fa hT (fun _ _=>rfl) (by omega)
  |int k=>exact⟨⟨rfl,by grind[Rd]⟩,tl⟩
  |bool=>exact⟨⟨rfl,by grind[Rd]⟩,tl⟩
  |str=>exact⟨⟨rfl,by grind[Rd]⟩,tl⟩
  |unit=>
   grind[Rd]
  |cons c' r' =>
   exfalso
   cases a with
   |v u z=>
    simp only[Ms]at e1;obtain⟨e3,_⟩:=ID e1;subst e3;exact absurd hv.1.1 (by simp[Ty.scalar])
   |_=>simp[Ms]at e1
 | .unit,_::_,_,_,_,e=>by simp[H8]at e
 | .unit,[],_::_,_,hv,_=>hv.elim
 | .cons _ _,[],_,_,_,e=>by simp[H8]at e
 | .cons _ _,_::_,[],_,hv,_=>hv.elim
 | .int _,_,_,_,_,e=>by simp[H8]at e
 | .bool,_,_,_,_,e=>by simp[H8]at e
 | .str,_,_,_,_,e=>by simp[H8]at e
 | .sl _,_,_,_,_,e=>by simp[H8]at e
end
end Go.Fw
end
section
namespace Go.Fw
def Ext(m m':PZ):Prop:=m'.length=m.length∧ ∀(i b:Nat),m[i]? =some (some b)→m'[i]? =some (some b)
theorem Ext.refl(m:PZ):Ext m m:=⟨rfl,fun _ _ h=>h⟩
theorem Ext.trans{m m' m'':PZ}(h:Ext m m')(k:Ext m' m''):Ext m m'':=⟨k.1.trans h.1,fun i b e=>k.2 i b (h.2 i b e)⟩
def pn(m:PZ):Prop:= ∀(i j b:Nat),m[i]? =some (some b)→m[j]? =some (some b)→i=j
theorem de{m m':PZ}{i b:Nat}(e:m.put i b=some m'):Ext m m'∧m'[i]? =some (some b)∧(pn m→pn m'):=by
 unfold PZ.put at e;split at e
 ·rename_i h
  split at e
  ·cases e
  ·rename_i hc
   cases e;have Hw:=(ALO.1 h).1;have ATM:∀(k:Nat),m[k]?≠some (some b):=fun k hk=>hc (by
    grind)
   refine⟨⟨by simp,fun k c hk=> ?_⟩,by simp[Hw],fun hi j k c hj hk=> ?_⟩
   ·grind
   ·by_cases e1:j=i<;>by_cases e2:k=i
    ·omega
    ·grind
    ·grind
    ·rw[AQQ (by omega)]at hj hk
     exact hi j k c hj hk
 all_goals grind[Ext.refl]
def Sm(m:PZ):List Nat→List Nat→Prop
 |[],[]=>True
 |i::is,b::bs=>m[i]? =some (some b)∧Sm m is bs
 |_,_=>False
theorem Sm.ext{m m':PZ}(h:Ext m m'):∀{is bs},Sm m is bs→Sm m' is bs
 |[],[],_=>trivial
 |_::_,_::_,k=>⟨h.2 _ _ k.1,Sm.ext h k.2⟩
theorem jC:∀{is bs:AAs} {m m':PZ},aY m is bs=some m'→Ext m m'∧Sm m' is bs∧(pn m→pn m')
 |[],[],m,m',e=>by simp only[aY,ALL]at e;subst e;exact⟨Ext.refl _,trivial,fun h=>h⟩
 |i::is,b::bs,m,m',e=>by
  simp only[aY,ALe]at e;obtain⟨m1,e1,e2⟩:=e;obtain⟨a1,a2,a3⟩:=de e1;obtain⟨b1,b2,b3⟩:=jC e2;exact⟨a1.trans b1,⟨b1.2 _ _ a2,b2⟩,fun h=>b3 (a3 h)⟩
 |[],_::_,_,_,e=>by simp[aY]at e
 |_::_,[],_,_,e=>by simp[aY]at e
def Su(N:Nat)(m:PZ):AP→AV→Prop
 | .ref i,x=> ∃b,(x= .ref b []∨(x= .nil∧b=N+i))∧m[i]? =some (some b)
 | .ptr i j,x=> ∃b,x= .IX b j∧m[i]? =some (some b)
 | .fn f Kg,x=> ∃bs,x= .fn f bs∧Sm m Kg bs
 | .nil,x=>x= .nil
 | .kj i sz,x=> ∃b k j,x= .ref b [⟨k,sz,j⟩]∧m[i]? =some (some b)
 |_,_=>True
theorem Su.ext{N:Nat}{m m':PZ}(h:Ext m m'){p:AP}{x:AV}(k:Su N m p x):Su N m' p x:=by
 cases p with
 |ref i=>obtain⟨b,hx,k⟩:=k;exact⟨b,hx,h.2 _ _ k⟩
 |ptr i j=>obtain⟨b,rfl,k⟩:=k;exact⟨b,rfl,h.2 _ _ k⟩
 |fn f Kg=>obtain⟨bs,rfl,k⟩:=k;exact⟨bs,rfl,k.ext h⟩
 |nil=>exact k
 |kj i sz=>obtain⟨b,q,j,rfl,k⟩:=k;exact⟨b,q,j,rfl,h.2 _ _ k⟩
 |_=>trivial
theorem dH{N:Nat}{m m':PZ}{p:AP}{x:AV}(e:p.N1 N m x=some m'):Ext m m'∧Su N m' p x∧(pn m→pn m'):=by
 cases p with
 |ref i=>
  cases x with
  |ref b q=>
   cases q with
   |nil=>
    obtain⟨a,b,c⟩:=de (by simpa only[AP.N1]using e);exact⟨a,⟨_,.inl rfl,b⟩,c⟩
   |cons _ _=>simp[AP.N1]at e
  |nil=>
   obtain⟨a,b,c⟩:=de (by simpa only[AP.N1]using e);exact⟨a,⟨_,.inr ⟨rfl,rfl⟩,b⟩,c⟩
  |_=>simp[AP.N1]at e
 |ptr i j=>
  cases x with
  |IX b j' =>
   simp only[AP.N1]at e;split at e
   ·rename_i hj
    subst hj;obtain⟨a,b,c⟩:=de e;exact⟨a,⟨_,rfl,b⟩,c⟩
   simp_all
  |_=>simp[AP.N1]at e
 |fn f Kg=>
  cases x with
  |fn g bs=>
   simp only[AP.N1]at e;split at e
   ·rename_i hf
    subst hf;obtain⟨a,b,c⟩:=jC e;exact⟨a,⟨_,rfl,b⟩,c⟩
   simp_all
  |_=>simp[AP.N1]at e
 |nil=>
  cases x with
  |nil=>simp only[AP.N1,ALL]at e;subst e;exact⟨Ext.refl _,rfl,fun h=>h⟩
  |_=>simp[AP.N1]at e
 |kj i sz=>
  cases x with
  |ref b q=>
   cases q with
   |nil=>simp[AP.N1]at e
   |cons s q=>
    cases q with
    |nil=>
     simp only[AP.N1]at e;split at e
     ·rename_i hs
      obtain⟨a,b,c⟩:=de e;obtain⟨k,z,y⟩:=s;dsimp only at hs;subst hs;exact⟨a,⟨_,k,y,rfl,b⟩,c⟩
     simp_all
    |cons _ _=>simp[AP.N1]at e
  |_=>simp[AP.N1]at e
 |_=>
  have:m=m':=by grind[AP.N1]
  subst this;exact⟨Ext.refl _,trivial,fun h=>h⟩
theorem WU{N:Nat}:∀{l:List AP} {xs:List AV} {m m':PZ},Xt.N1 N m l xs=some m'→Ext m m'∧CR (Su N m') l xs∧(pn m→pn m')
 |[],[],m,m',e=>by simp only[Xt.N1,ALL]at e;subst e;exact⟨Ext.refl _,trivial,fun h=>h⟩
 |p::l,x::xs,m,m',e=>by
  simp only[Xt.N1,ALe]at e;obtain⟨m1,e1,e2⟩:=e;obtain⟨a1,a2,a3⟩:=dH e1;obtain⟨b1,b2,b3⟩:=WU e2;exact⟨a1.trans b1,⟨a2.ext b1,b2⟩,fun h=>b3 (a3 h)⟩
 |[],_::_,_,_,e=>by simp[Xt.N1]at e
 |_::_,[],_,_,e=>by simp[Xt.N1]at e
def fp(N:Nat)(m:PZ):AP ⊕ List AP→AV ⊕ List AV→Prop
 | .inl p,.inl x=>Su N m p x
 | .inr p,.inr x=>CR (Su N m) p x
 |_,_=>False
theorem fp.ext{N:Nat}{m m':PZ}(h:Ext m m'):∀{p:AP ⊕ List AP} {x:AV ⊕ List AV},fp N m p x→fp N m' p x
 | .inl _,.inl _,k=>Su.ext h k
 | .inr _,.inr _,k=>CR.imp (fun _ _ k=>Su.ext h k) k
theorem ay{N:Nat}:∀{l:List (AP ⊕ List AP)} {xs:List (AV ⊕ List AV)} {m m':PZ},YS.N1 N m l xs=some m'→Ext m m'∧CR (fp N m') l xs∧(pn m→pn m')
 |[],[],m,m',e=>by simp only[YS.N1,ALL]at e;subst e;exact⟨Ext.refl _,trivial,fun h=>h⟩
 | .inl p::l,.inl x::xs,m,m',e=>by
  simp only[YS.N1,ALe]at e;obtain⟨m1,e1,e2⟩:=e;obtain⟨a1,a2,a3⟩:=dH e1;obtain⟨b1,b2,b3⟩:=ay e2;exact⟨a1.trans b1,⟨Su.ext b1 a2,b2⟩,fun h=>b3 (a3 h)⟩
 | .inr p::l,.inr x::xs,m,m',e=>by
  simp only[YS.N1,ALe]at e;obtain⟨m1,e1,e2⟩:=e;obtain⟨a1,a2,a3⟩:=WU e1;obtain⟨b1,b2,b3⟩:=ay e2;exact⟨a1.trans b1,⟨CR.imp (fun _ _ k=>Su.ext b1 k) a2,b2⟩,fun h=>b3 (a3 h)⟩
 |[],_::_,_,_,e=>by simp[YS.N1]at e
 | .inl _::_,[],_,_,e=>by simp[YS.N1]at e
 | .inr _::_,[],_,_,e=>by simp[YS.N1]at e
 | .inl _::_,.inr _::_,_,_,e=>by simp[YS.N1]at e
 | .inr _::_,.inl _::_,_,_,e=>by simp[YS.N1]at e
def bA(N:Nat)(m:PZ):XP→XV→Prop
 | .c p,.c x=>Su N m p x
 | .agg l,.agg xs=>CR (Su N m) l xs
 | .row _,.agg _=>True
 | .NA l,.NA xs=>CR (fp N m) l xs
 |_,_=>False
theorem bA.ext{N:Nat}{m m':PZ}(h:Ext m m'):∀{p:XP} {x:XV},bA N m p x→bA N m' p x
 | .c _,.c _,k=>Su.ext h k
 | .agg _,.agg _,k=>CR.imp (fun _ _ k=>Su.ext h k) k
 | .row _,.agg _,_=>trivial
 | .NA _,.NA _,k=>CR.imp (fun _ _ k=>fp.ext h k) k
theorem uf{N:Nat}{m m':PZ}:∀{p:XP} {x:XV},p.N1 N m x=some m'→Ext m m'∧bA N m' p x∧(pn m→pn m')
 | .c p,.c x,e=>dH (by grind[XP.N1])
 | .agg l,.agg xs,e=>WU (by grind[XP.N1])
 | .row r,.agg xs,e=>by simp only[XP.N1,ALL]at e;subst e;exact⟨Ext.refl _,trivial,fun h=>h⟩
 | .NA l,.NA xs,e=>ay (by grind[XP.N1])
 | .c _,.agg _,e=>by simp[XP.N1]at e
 | .c _,.NA _,e=>by simp[XP.N1]at e
 | .agg _,.c _,e=>by simp[XP.N1]at e
 | .agg _,.NA _,e=>by simp[XP.N1]at e
 | .row _,.c _,e=>by simp[XP.N1]at e
 | .row _,.NA _,e=>by simp[XP.N1]at e
 | .NA _,.c _,e=>by simp[XP.N1]at e
 | .NA _,.agg _,e=>by simp[XP.N1]at e
theorem c_{N:Nat}{tm:List XV}:∀{l:List (Nat×XP)} {m m':PZ},Gy.N1 N tm m l=some m'→
  Ext m m'∧(∀q∈l,∃x,tm[q.1]? =some x∧bA N m' q.2 x)∧(pn m→pn m')
 |[],m,m',e=>by grind[Gy.N1,Option.some.injEq,Ext.refl]
 |(i,p)::l,m,m',e=>by
  simp only[Gy.N1]at e;split at e
  ·rename_i x hx
   simp only[ALe]at e;obtain⟨m1,e1,e2⟩:=e;obtain⟨a1,a2,a3⟩:=uf e1;obtain⟨b1,b2,b3⟩:=c_ e2;refine⟨a1.trans b1,?_,fun h=>b3 (a3 h)⟩;intro q hq;rcases APr.1 hq with rfl|hq
   all_goals grind[bA.ext]
  simp_all
theorem WM{N:Nat}{bx:List Bx}:∀{l:List BP} {i:Nat} {m m':PZ},Jr.N1 N bx i m l=some m'→
  Ext m m'∧(∀(k:Nat) q,l[k]? =some (.mem q)→ ∃b cs,m'[i+k]? =some (some b)∧bx[b]? =some (.mem cs)∧CR (Su N m') q cs)∧
   (∀(k:Nat) d r,l[k]? =some (.sl d r)→ ∃b,m'[i+k]? =some (some b))∧(pn m→pn m')
 |[],i,m,m',e=>by grind[Jr.N1,Option.some.injEq,Ext.refl]
 | .mem q::l,i,m,m',e=>by
  simp only[Jr.N1]at e;split at e
  ·rename_i b hb
   split at e
   ·rename_i cs uV
    simp only[ALe]at e;obtain⟨m1,e1,e2⟩:=e;obtain⟨a1,a2,a3⟩:=WU e1;obtain⟨b1,b2,b4,b3⟩:=WM e2;refine⟨a1.trans b1,?_,?_,fun h=>b3 (a3 h)⟩
    ·intro k q' hk
     cases k with
     |zero=>cases hk;exact⟨b,cs,b1.2 _ _ (a1.2 _ _ hb),uV,CR.imp (fun _ _ k=>Su.ext b1 k) a2⟩
     |succ k=>
      grind
    grind
   simp_all
  simp_all
 | .sl d r::l,i,m,m',e=>by
  simp only[Jr.N1]at e;split at e
  ·rename_i b hb
   obtain⟨b1,b2,b4,b3⟩:=WM e;refine⟨b1,?_,?_,b3⟩
   ·grind
   ·intro k d r hk
    cases k with
    |zero=>exact⟨b,b1.2 _ _ hb⟩
    |succ k=>
     grind
  simp_all
 | .gone::l,i,m,m',e=>by
  simp only[Jr.N1]at e;obtain⟨b1,b2,b4,b3⟩:=WM e;grind
theorem SF{bx bk:List Bx}{Jc:Nat→Nat}:∀{l:List BP} {m:PZ} {x:Jr.V l},Jr.get bx bk m l=some x→(Jr.mk Jc l x).length=l.length∧
  ∀(k:Nat) p,l[k]? =some p→ ∃y:p.V,(Jr.mk Jc l x)[k]? =some (p.mk Jc y)∧
   match p,y with
   | .mem q,y=> ∃b cs,m[k]? =some (some b)∧bx[b]? =some (.mem cs)∧Xt.get bk q cs=some y
   | .sl d r,y=> ∃b d',m[k]? =some (some b)∧bx[b]? =some (.sl d' r y)∧1≤d∧d≤d'
   | .gone,_=>True
 |[],m,x,e=>⟨rfl,by simp⟩
 | .mem q::l,some b::m,x,e=>by
  simp only[Jr.get]at e;split at e
  ·rename_i cs uV
   simp only[ALe,ALN]at e;obtain⟨a,e1,c,e2,rfl⟩:=e;obtain⟨h1,h2⟩:=SF (Jc:=Jc) e2;refine⟨by simp[Jr.mk,h1],fun k p hk=> ?_⟩;cases k with
   |zero=>cases hk;exact⟨a,rfl,b,cs,rfl,uV,e1⟩
   |succ k=>
    grind[Jr.mk]
  simp_all
 | .sl d r::l,some b::m,x,e=>by
  simp only[Jr.get]at e;split at e
  ·rename_i d' q rows hb
   split at e
   ·rename_i hd
    simp only[ALe,ALN]at e;obtain⟨a,e1,c,e2,rfl⟩:=e;obtain⟨e3,e4⟩:=ID e1;subst e3;subst e4;obtain⟨h1,h2⟩:=SF (Jc:=Jc) e2;refine⟨by simp[Jr.mk,h1],fun k p hk=> ?_⟩;cases k with
    |zero=>cases hk;exact⟨rows,rfl,b,d',rfl,hb,hd.1,hd.2⟩
    |succ k=>
     grind[Jr.mk]
   simp_all
  simp_all
 | .gone::l,o::m,x,e=>by
  have e':(Jr.get bx bk m l).map (fun c=>((),c))=some x:=by grind[Jr.get]
  simp only[ALN]at e';obtain⟨c,e2,rfl⟩:=e';obtain⟨h1,h2⟩:=SF (Jc:=Jc) e2;refine⟨by simp[Jr.mk,h1],fun k p hk=> ?_⟩;cases k with
  |zero=>cases hk;exact⟨(),rfl,trivial⟩
  |succ k=>
   grind[Jr.mk]
 | .mem q::l,none::m,x,e=>by simp[Jr.get]at e
 | .sl d r::l,none::m,x,e=>by simp[Jr.get]at e
 | .mem _::_,[],x,e=>by simp[Jr.get]at e
 | .sl _ _::_,[],x,e=>by simp[Jr.get]at e
 | .gone::_,[],x,e=>by simp[Jr.get]at e
theorem KW:∀{m:PZ} {bx:List Bx},(Cs bx m).length=bx.length
 |[],_=>rfl
 |some b::m,bx=>by simp[Cs,KW]
 |none::m,bx=>by simp[Cs,KW]
theorem SV:∀{m:PZ} {bx vw:List Bx},FG bx vw→FG (Cs bx m) vw
 |[],_,_,h=>h
 |none::m,bx,vw,h=>by simp only[Cs];exact SV h
 |some b::m,bx,vw,h=>by
  simp only[Cs];refine SV fun k B hk=> ?_
  by_cases e:k=b
  ·grind
  ·rw[AQQ (by omega)]at hk
   exact h k B hk
theorem V9:∀{m:PZ} {bx:List Bx} {b:Nat} {B:Bx},some b∈m→(Cs bx m)[b]? =some B→B= .dead
 |some c::m,bx,b,B,h,e=>by
  simp only[Cs]at e;by_cases hm:some b∈m
  ·exact V9 hm e
  ·have:c=b:=by
    simp_all
   subst this;have:∀{m:PZ} {bx:List Bx},bx[c]? =some .dead→some c∉m→(Cs bx m)[c]? =some .dead:=by
    intro m
    induction m with
    |nil=>intro bx h _;exact h
    |cons o m ih=>
     intro bx h hn;cases o with
     |none=>grind[Cs,List.mem_cons_of_mem]
     |some d=>
      grind[Cs,List.mem_cons_of_mem,List.getElem?_set_ne]
   grind[List.getElem?_eq_some_iff,KW]
 |none::m,bx,b,B,h,e=>by
  simp only[Cs]at e;exact V9 (by simp_all) e
theorem nE{E:Env}{w:World}{vw:List Bx}:∀{m:PZ} {bx:List Bx} {G:AAs},pn m→C7 E w vw bx G→
  ∃Gs:List AAs,Gs.length=m.length∧(∀(k b:Nat) B F,m[k]? =some (some b)→bx[b]? =some B→Gs[k]? =some F→pZ E w vw b B F)∧
   C7 E w vw (Cs bx m) (Gs.flatten++G)
 |[],bx,G,_,h=>⟨[],rfl,by simp,h⟩
 |none::m,bx,G,hi,h=>by
  obtain⟨Gs,h1,h2,h3⟩:=nE (m:=m) (fun i j b DG hj=>by
   have:=hi (i+1) (j+1) b (by simp_all) (by simp_all);omega) h
  refine⟨[]::Gs,by simp[h1],fun k b B F hk hB hF=> ?_,by grind[Cs]⟩;grind
 |some b::m,bx,G,hi,h=>by
  have AJy:pn m:=fun i j b DG hj=>by
   have:=hi (i+1) (j+1) b (by simp_all) (by simp_all);omega
  cases e:bx[b]? with
  |none=>
   have UZ:bx.set b .dead=bx:=List.set_eq_of_length_le (by simp_all);obtain⟨Gs,h1,h2,h3⟩:=nE (m:=m) AJy h;refine⟨[]::Gs,by simp[h1],fun k b' B F hk hB hF=> ?_,by grind[Cs]⟩;grind
  |some B0=>
   obtain⟨F0,k1,k2⟩:=h.take e;obtain⟨Gs,h1,h2,h3⟩:=nE (m:=m) AJy k2;refine⟨F0::Gs,by simp[h1],fun k b' B F hk hB hF=> ?_,?_⟩
   ·cases k with
    |zero=>
     simp_all
    |succ k=>
     have cq:b'≠b:=fun hh=>by
      have:=hi 0 (k+1) b (by simp) (by simp_all);omega
     grind
   ·simp only[Cs]
    refine h3.perm ?_
    grind
end Go.Fw
end
section
namespace Go.Fw
theorem oL{R:Nat→List Nat→List Nat→List Nat→Prop}:∀(Gs:List AAs) (o:Nat),(∀(k:Nat) G,Gs[k]? =some G→ ∃F W,G.Perm (F++W)∧R (o+k) G F W)→
  ∃Fs Ws:List AAs,Fs.length=Gs.length∧Ws.length=Gs.length∧Gs.flatten.Perm (Fs.flatten++Ws.flatten)∧
   ∀(k:Nat) G F W,Gs[k]? =some G→Fs[k]? =some F→Ws[k]? =some W→R (o+k) G F W
 |[],o,_=>⟨[],[],rfl,rfl,by simp,by simp⟩
 |G::Gs,o,h=>by
  obtain⟨F,W,hp,hr⟩:=h 0 G rfl;obtain⟨Fs,Ws,h1,h2,h3,h4⟩:=oL Gs (o+1) (fun k G hk=>by
   have:=h (k+1) G (by simp_all)
   rwa [show o+1+k=o+(k+1)by omega])
  refine⟨F::Fs,W::Ws,by simp[h1],by simp[h2],?_,fun k G' F' W' hG hF hW=> ?_⟩
  all_goals grind
def OG(E:Env)(w:World)(vw:List Bx)(Jc:Nat→Nat):(l:List (Nat×XP))→Gy.V l→List Value→Prop
 |[],_,_=>True
 |(i,p)::l,x,vals=>(∃v,vals[i]? =some v∧XR E w vw (p.mk Jc x.1) v)∧OG E w vw Jc l x.2 vals
section
variable{E E1:Env} {w:World} {bx bk wJ:List Bx} {Fk:List AAs} {m:PZ}
theorem Sm.map{f:Nat→Nat}(h:∀(i b:Nat),m[i]? =some (some b)→E1.Hz i=E.Hz b):∀{is bs:AAs},Sm m is bs→
  (is.map fun b=>Value.pointer (some ⟨E1.Hz b,0,none⟩))=bs.map fun b=>Value.pointer (some ⟨E.Hz b,0,none⟩)
 |[],[],_=>rfl
 |i::is,b::bs,k=>by simp[h i b k.1,Sm.map (f:=f) h k.2]
theorem Sm.lt:∀{is bs:AAs},Sm m is bs→ ∀i∈is,i<m.length
 |[],[],_,_,h=>by simp at h
 |i::is,b::bs,k,j,h=>by
  rcases APr.1 h with rfl|h
  ·exact(ALO.1 k.1).1
  ·exact Sm.lt k.2 j h
structure ABT (N:Nat) (E:Env) (w:World) (bx bk:List Bx) (Fk:List AAs) (m:PZ) (E1:Env) (wJ:List Bx):Prop where
 within:FG bk bx
 boxes:NV E w bx bk Fk
 st:∀c,E.S c→E.T c
 T:∀c,pE E Fk c→E1.T c
 S:∀c,E.S c→E1.S c
 ids:∀(i b:Nat),m[i]? =some (some b)→E1.Hz i=E.Hz b∧E1.Hy i=E.Hy b
 len:m.length≤wJ.length
 nil:∀(i:Nat) d r rows,wJ[i]? =some (.sl d r rows)→E.Hy (N+i)= .slice none 0 0
 sl:∀(i:Nat) d r rows,i<m.length→wJ[i]? =some (.sl d r rows)→ ∃b d',m[i]? =some (some b)∧bx[b]? =some (.sl d' r rows)
variable{N:Nat} (k:ABT N E w bx bk Fk m E1 wJ)
include k
theorem wh{p:AP}{x:AV}{v:Value}(hv:VR E w bx x v)(ha:Su N m p x){y:p.V}(e:p.get bk x=some y):VR E1 w wJ (p.mk id y) v:=by
 cases p with
 |v t=>
  simp only[AP.get]at e;split at e
  ·rename_i hs
   have hr:=U2 k.within k.boxes k.st hv e;refine⟨hs,?_⟩;cases t with
   |int _=>grind[Rd]
   |bool=>grind[Rd]
   |str=>grind[Rd]
   |_=>simp[Ty.scalar]at hs
  simp_all
 |sl s r=>
  cases s with
  |false=>
   simp only[AP.get]at e;have hr:=U2 k.within k.boxes k.st hv e;simp only[AP.mk,VR];exact Fa k.T (fun _ _=>rfl) (by omega)
  |true=>
   simp only[AP.get]at e;split at e
   ·rename_i q z
    obtain⟨e1,e2⟩:=ID e;subst e1;subst e2;simp only[AP.mk,VR]at hv⊢;exact Fa k.S (fun _ _=>rfl) (by simp_all)
   ·cases e
    simp only[AP.mk,VR]at hv⊢;subst hv;simp only[Rd];simp_all
   simp_all
 |nil=>
  obtain rfl:=ha;exact hv
 |ref i=>
  obtain⟨b,hx,hm⟩:=ha;have hi:=(ALO.1 hm).1;simp only[AP.mk,id,VR];rcases hx with rfl|⟨rfl,rfl⟩
  ·have zT:=hv.1
   refine⟨zT,?_⟩;cases e1:wJ[i]? with
   |none=>simp at e1;have:=k.len;omega
   |some B=>
    cases B with
    |sl d r rows=>
     obtain⟨b',d',h1,h2⟩:=k.sl i d r rows hi e1;rw[hm]at h1;cases h1;simp only[VR,h2]at hv
     replace hv:=hv.2
     refine⟨by simp[C_],⟨_,rfl⟩,?_⟩;rw[(k.ids i b hm).2];simp_all
    |_=>trivial
  ·have X8:v= .slice none 0 0:=hv
   subst X8;refine⟨rfl,?_⟩;cases e1:wJ[i]? with
   |none=>simp at e1;have:=k.len;omega
   |some B=>
    cases B with
    |sl d r rows=>
     refine⟨by simp[C_],⟨_,rfl⟩,?_⟩;rw[(k.ids i _ hm).2,k.nil i d r rows e1,C4]
    |_=>trivial
 |ptr i j=>
  obtain⟨b,rfl,hm⟩:=ha;have hi:=(ALO.1 hm).1;exact⟨AQZ hi k.len,by rw[hv.2,id,(k.ids i b hm).1]⟩
 |mV r=>
  simp only[AP.get]at e;split at e
  ·rename_i s q z
   obtain⟨e1,e2⟩:=ID e;subst e1;subst e2;simp only[AP.mk,VR]at hv⊢;obtain⟨bb,o,cs,h1,h2,h3,h4,h5⟩:=hv;have AOv:∀c,(if s=true then E.S else E.T) c→E1.T c:=by
    intro c hc;cases s
    ·exact k.T c (.inl (by simp_all))
    ·exact k.T c (.inl (k.st c (by simp_all)))
   exact⟨bb,o,cs,h1,by simp_all,h3,h4,by simpa using Fa AOv (fun _ _=>rfl) h5⟩
  ·rename_i b
   split at e
   ·rename_i cs hb
    obtain⟨F,⟨hF,arr,ty,fr,ha,hu,Vt⟩,TQ⟩:=k.boxes.get hb;have Xu:=fu k.within k.boxes k.st Vt e;simp only[AP.mk,VR];refine⟨E.Hz b,0,arr.toList,by simpa using hv.2,?_,kb Xu,?_,by simpa using Fa k.T (fun _ _=>rfl) Xu⟩
    ·simp only[AL6,APB]
     exact k.T _ (.inr (TQ _ (by simp_all)))
    ·intro j u hj
     simp only[AQu,World.cell?,ha,AQh,AL6,APB];simp_all
   simp_all
  ·rename_i b p i sz
   split at e
   ·rename_i d q rows hb
    simp only[ALe]at e;obtain⟨⟨q',ys⟩,e1,e2⟩:=e;split at e2
    case isFalse=>cases e2
    rename_i PQ;obtain⟨e3,e4⟩:=ID e2;dsimp only at e3;subst e3;subst e4;simp only[VR,YW k.within hb]at hv;obtain⟨_,hp,q1,ys1,bb,o,len,cap,hg,hi,hh,rfl⟩:=hv;rw[hg]at e1;simp only[ALL,ANo]at e1;obtain⟨e5,e6⟩:=e1;subst e5;obtain rfl:=AQJ e6;have Xu:=dh k.within k.boxes k.st hb hp hg hh;simp only[Rd]at Xu;obtain⟨a',cap',ee,_,Xu⟩:=Xu;simp only[APx,Value.slice.injEq,AQc]at ee;obtain⟨rfl,rfl,rfl⟩:=ee;rcases Xu with Xu|⟨b1,o1,e7,hb1,Xu⟩
    ·omega
    ·cases e7
     obtain⟨cs,c1,c2,c3⟩:=Xu i _ (Qs hi);simp only[AP.mk,VR];refine⟨bb,o+i*q1.n,cs,by rw[PQ],by simpa using k.T _ hb1,c1,c2,by simpa using Fa k.T (fun _ _=>rfl) c3⟩
   simp_all
  simp_all
 |fn f Kg=>
  obtain⟨bs,rfl,hc⟩:=ha;refine⟨fun i hi=>AQZ (hc.lt i (by simp_all)) k.len,?_⟩;rw[hv.2];simp only[AP.mk,List.map_id];rw[Sm.map (f:=id) (fun i b h=>(k.ids i b h).1) hc]
 |qG f rs=>
  simp only[AP.get]at e;split at e
  ·rename_i g rows
   split at e
   case isFalse=>cases e
   rename_i hfg;subst hfg;obtain⟨ps,cJ,aO⟩:=hv;refine⟨ps,cJ,?_⟩;clear ha cJ
   induction rs generalizing rows ps with
   |nil=>
    cases rows with
    |nil=>
     cases ps with
     |nil=>trivial
     |cons _ _=>exact aO.elim
    |cons _ _=>simp[Zb.ny]at e
   |cons r rs ih=>
    cases rows with
    |nil=>simp[Zb.ny]at e
    |cons q rows=>
     cases ps with
     |nil=>exact aO.elim
     |cons p ps=>
      simp only[Zb.ny,ALe,ALN]at e;obtain⟨x1,e1,x2,e2,rfl⟩:=e;obtain⟨q1,q2⟩:=q;obtain⟨e3,e4⟩:=ID e1;dsimp only at e3;subst e3;subst e4;obtain⟨⟨bb,o,cs,h1,h2,h3,h4,h5⟩,aO⟩:=aO;exact⟨⟨bb,o,cs,h1,k.T bb (.inl h2),h3,h4,Fa (fun b hb=>k.T b (.inl hb)) (fun _ _=>rfl) h5⟩,ih rows e2 ps aO⟩
  ·rename_i g bs
   split at e
   case isFalse=>cases e
   rename_i hfg;subst hfg;obtain⟨cJ,aO⟩:=hv;refine⟨bs.map fun b=>Value.pointer (some ⟨E.Hz b,0,none⟩),aO,?_⟩;clear ha cJ aO
   induction rs generalizing bs with
   |nil=>
    cases bs with
    |nil=>trivial
    |cons _ _=>simp[Zb.pO]at e
   |cons r rs ih=>
    cases bs with
    |nil=>simp[Zb.pO]at e
    |cons b bs=>
     simp only[Zb.pO,ALe,ALN]at e;obtain⟨x1,e1,x2,e2,rfl⟩:=e;split at e1
     case h_2=>cases e1
     rename_i cs hb;obtain⟨F,⟨hF,arr,ty,fr,ha,hu,Vt⟩,TQ⟩:=k.boxes.get hb;have Xu:=fu k.within k.boxes k.st Vt e1;refine⟨⟨E.Hz b,0,arr.toList,rfl,k.T _ (.inr (TQ _ (by simp_all))),kb Xu,?_,Fa k.T (fun _ _=>rfl) Xu⟩,ih bs e2⟩;intro j u hj;simp only[AQu,World.cell?,ha,AQh,AL6,APB];simp_all
  simp_all
 |any=>trivial
 |kj i sz=>
  obtain⟨b,q,j,rfl,hm⟩:=ha;have hi:=(ALO.1 hm).1;simp only[AP.get,ALL]at e;subst e;simp only[AP.mk,id,VR];have zT:=hv.1;refine⟨zT,?_⟩;cases e1:wJ[i]? with
  |none=>simp at e1;have:=k.len;omega
  |some B=>
   cases B with
   |sl d r rows=>
    obtain⟨b',d',h1,h2⟩:=k.sl i d r rows hi e1;rw[hm]at h1;cases h1;simp only[VR,h2]at hv
    replace hv:=hv.2
    refine⟨hv.1,hv.2.1,?_⟩;rw[(k.ids i b hm).2];simp_all
   |_=>trivial
theorem nB:∀{l:List AP} {xs:List AV} {vs:List Value},i7 E w bx xs vs→CR (Su N m) l xs→ ∀{y:Xt.V l},Xt.get bk l xs=some y→i7 E1 w wJ (Xt.mk id l y) vs
 |[],[],[],_,_,_,_=>trivial
 |p::l,x::xs,v::vs,hv,ha,y,e=>by
  simp only[Xt.get,ALe,ALN]at e;obtain⟨a,e1,b,e2,rfl⟩:=e;exact⟨wh k hv.1 ha.1 e1,nB hv.2 ha.2 e2⟩
 |[],[],_::_,hv,_,_,_=>hv.elim
 |_::_,_::_,[],hv,_,_,_=>hv.elim
 |[],_::_,_,_,ha,_,_=>ha.elim
 |_::_,[],_,_,ha,_,_=>ha.elim
theorem sy:∀{l:List (AP ⊕ List AP)} {xs:List (AV ⊕ List AV)} {vs:List Value},CR (TR E w bx) xs vs→CR (fp N m) l xs→ ∀{y:YS.V l},YS.get bk l xs=some y→
  CR (TR E1 w wJ) (YS.mk id l y) vs
 |[],[],[],_,_,_,_=>trivial
 | .inl p::l,.inl x::xs,v::vs,hv,ha,y,e=>by
  simp only[YS.get,ALe,ALN]at e;obtain⟨a,e1,b,e2,rfl⟩:=e;exact⟨wh k hv.1 ha.1 e1,sy hv.2 ha.2 e2⟩
 | .inr p::l,.inr x::xs,v::vs,hv,ha,y,e=>by
  simp only[YS.get,ALe,ALN]at e;obtain⟨a,e1,b,e2,rfl⟩:=e;obtain⟨⟨us,hu,hus⟩,h2⟩:=hv;exact⟨⟨us,hu,nB k hus ha.1 e1⟩,sy h2 ha.2 e2⟩
 | .inl _::_,.inr _::_,_,_,ha,_,_=>ha.1.elim
 | .inr _::_,.inl _::_,_,_,ha,_,_=>ha.1.elim
 |[],[],_::_,hv,_,_,_=>hv.elim
 |_::_,_::_,[],hv,_,_,_=>hv.elim
 |[],_::_,_,_,ha,_,_=>ha.elim
 |_::_,[],_,_,ha,_,_=>ha.elim
theorem ALX{p:XP}{x:XV}{v:Value}(hv:XR E w bx x v)(ha:bA N m p x){y:p.V}(e:p.get bk x=some y):XR E1 w wJ (p.mk id y) v:=by
 cases p with
 |c p=>cases x with
  |c x=>exact wh k hv ha (by grind[XP.get])
  |_=>exact ha.elim
 |agg l=>cases x with
  |agg xs=>
   obtain⟨vs,rfl,Vt⟩:=hv;exact⟨vs,rfl,nB k Vt ha (by grind[XP.get])⟩
  |_=>exact ha.elim
 |row r=>cases x with
  |agg xs=>
   obtain⟨vs,rfl,Vt⟩:=hv;exact⟨vs,rfl,hI k.within k.boxes k.st k.T Vt (by grind[XP.get])⟩
  |_=>exact ha.elim
 |NA l=>cases x with
  |NA xs=>
   obtain⟨vs,rfl,Vt⟩:=hv;exact⟨vs,rfl,sy k Vt ha (by grind[XP.get])⟩
  |_=>exact ha.elim
theorem rI{tm:List XV}{vals:List Value}(htm:CR (XR E w bx) tm vals):∀{l:List (Nat×XP)},(∀q∈l,∃x,tm[q.1]? =some x∧bA N m q.2 x)→ ∀{y:Gy.V l},Gy.get bk tm l=some y→
  OG E1 w wJ id l y vals
 |[],_,_,_=>trivial
 |(i,p)::l,ha,y,e=>by
  obtain⟨x,hx,hax⟩:=ha (i,p) (by simp);simp only[Gy.get,hx,ALe,ALN]at e;obtain⟨a,e1,b,e2,rfl⟩:=e;obtain⟨v,hv,hr⟩:=htm.get hx;exact⟨⟨v,hv,ALX k hr hax e1⟩,rI htm (fun q hq=>ha q (by simp[hq])) e2⟩
end
structure sk (E:Env) (w:World) (bx:List Bx) (m:PZ) (s:A5) (x:s.V) (vals:List Value) (E1:Env):Prop where
 boxes:C7 E1 w (Jr.mk id s.Gr x.2) (Jr.mk id s.Gr x.2) []
 Dr:OG E1 w (Jr.mk id s.Gr x.2) id s.Dr x.1 vals
 ids:∀(i b:Nat),m[i]? =some (some b)→E1.Hz i=E.Hz b∧E1.Hy i=E.Hy b
 inj:pn m
 len:m.length=s.Gr.length
 S:∀c,E.S c→E1.S c
 yH:∀c,E1.S c→E.S c∨ ¬E.T c
 T:∀c,E.T c→E1.T c
 rest:∃Fk,NV E w bx (Cs bx m) Fk∧Fk.flatten.Nodup∧(∀c∈Fk.flatten,¬E.T c∧ ¬E1.S c∧c<w.heap.size∧E1.T c)∧(∀c,E1.T c→E.T c∨E1.S c∨c∈Fk.flatten)
theorem kE{E:Env}{w:World}{bx:List Bx}{tm:List XV}{vals:List Value}(hB:C7 E w bx bx [])(htm:CR (XR E w bx) tm vals){s:A5}{m0 m:PZ}{x:s.V}
  {N:Nat} (vT:∀(i:Nat) d r,s.Gr[i]? =some (.sl d r)→E.Hy (N+i)= .slice none 0 0) (hlen:m0.length=s.Gr.length) (AJy:pn m0) (e:s.fit N m0 tm bx=some (x,m)):Ext m0 m∧ ∃E1,sk E w bx m s x vals E1:=by
 simp only[A5.fit,ALe,ALN]at e;obtain⟨m1,e1,m2,e2,a,e3,c,e4,e5⟩:=e;cases e5;obtain⟨a1,a2,a3⟩:=c_ e1;obtain⟨b1,b2,b4,b3⟩:=WM e2;have hi:pn m:=b3 (a3 AJy);have wA:m.length=s.Gr.length:=by rw[b1.1,a1.1,hlen]
 refine⟨a1.trans b1,?_⟩;obtain⟨Gs,g1,g2,g3⟩:=nE hi hB;obtain⟨q1,q2⟩:=SF (Jc:=id) e4;have st:=hB.st
 let R:Nat→List Nat→List Nat→List Nat→Prop:=fun k G F W=>
  match s.Gr[k]? with
  |some (.sl d r)=> ∀(b d':Nat) (rows:List r.D),m[k]? =some (some b)→bx[b]? =some (.sl d' r rows)→Ow w (fun c=>E.S c∨c∈W) d (.sl r) [E.Hy b] rows F
  |some (.mem q)=>F=G∧W=[]
  |_=>F=[]∧W=G
 have APY:∀(k:Nat) G,Gs[k]? =some G→ ∃F W,G.Perm (F++W)∧R (0+k) G F W:=by
  intro k G hG;rw[AQu];have hk:k<s.Gr.length:=by
   grind
  have hp:s.Gr[k]? =some s.Gr[k]:=ALD hk;cases hb:s.Gr[k]with
  |mem q=>exact⟨G,[],by simp,by grind⟩
  |gone=>exact⟨[],G,by simp,by grind⟩
  |sl d r=>
   obtain⟨y,y1,b,d',y2,y3,y4,y5⟩:=q2 k _ (hp.trans (by rw[hb]));obtain⟨_,ho⟩:=g2 k b _ G y2 y3 hG;grind[KE]
 obtain⟨Fs,Ws,f1,f2,f3,f4⟩:=oL Gs 0 APY;obtain⟨Fk,k1,k2⟩:=g3;simp only[ANI]at k2;have bD:Sep E w (Fk.flatten++(Fs.flatten++Ws.flatten)):=k2.perm (ASu _ f3)
 let E1:Env:={
   Hz:=fun i=>match m[i]? with|some (some b)=>E.Hz b|_=>0
   Hy:=fun i=>match m[i]? with|some (some b)=>E.Hy b|_=> .nilFunc
   S:=fun c=>E.S c∨c∈Ws.flatten
   T:=fun c=>E.T c∨c∈Ws.flatten∨c∈Fk.flatten }
 have ABs:∀(i b:Nat),m[i]? =some (some b)→E1.Hz i=E.Hz b∧E1.Hy i=E.Hy b:=fun i b h=>by grind
 have fe:ABT N E w bx (Cs bx m) Fk m E1 (Jr.mk id s.Gr c):={
  within:=SV (FG.refl bx)
  boxes:=k1
  st:=st
  T:=fun d hd=>hd.elim .inl fun h=> .inr (.inr h)
  S:=fun d hd=> .inl hd
  ids:=ABs
  len:=by omega
  nil:=fun i d r rows e=>by
   have hk:i<s.Gr.length:=by
    grind
   obtain⟨y,y1,_⟩:=q2 i _ (ALD hk);have hp:=ALD hk;rw[e]at y1
   generalize s.Gr[i]=P at y y1 hp
   cases P with
   |mem q=>cases y1
   |gone=>cases y1
   |sl d0 r0=>grind
  sl:=fun i d r rows hi e=>by
   have hk:i<s.Gr.length:=by omega
   obtain⟨y,y1,y2⟩:=q2 i _ (ALD hk);rw[e]at y1
   generalize s.Gr[i]=P at y y1 y2
   cases P with
   |mem q=>cases y1
   |gone=>cases y1
   |sl d0 r0=>
    simp only[BP.mk,ALL,Bx.sl.injEq]at y1;grind }
 have nd:=bD.nodup;have ACe:∀c∈Fs.flatten,¬E1.T c:=by
  intro d hd h;rcases h with h|h|h
  ·exact bD.free d (by simp[hd]) h
  all_goals grind
 have ALi:OG E1 w (Jr.mk id s.Gr c) id s.Dr a vals:=rI fe htm (fun q hq=>let⟨x,h1,h2⟩:=a2 q hq;⟨x,h1,bA.ext b1 h2⟩) e3;refine⟨E1,sk.mk ?_ ALi ABs hi wA (fun d hd=> .inl hd) ?_ (fun d hd=> .inl hd) ⟨Fk,k1,(AOA.1 nd).1,fun d hd=>⟨bD.free d (by simp[hd]),?_,bD.lt d (by simp[hd]),.inr (.inr hd)⟩,?_⟩⟩
 ·refine⟨Fs,⟨by simp_all,fun k B F hk hF=> ?_⟩,?_⟩
  ·have hkl:k<s.Gr.length:=by
    grind
   have hp:s.Gr[k]? =some s.Gr[k]:=ALD hkl;obtain⟨y,y1,y2⟩:=q2 k _ hp;rw[hk]at y1;cases y1;have hG:Gs[k]? =some (Gs[k]'(by omega)):=ALD _;have hW:Ws[k]? =some (Ws[k]'(by omega)):=ALD _;have hr:=f4 k _ F _ hG hF hW;rw[AQu]at hr;have ATh:∀d∈Ws[k]'(by omega),d∈Ws.flatten:=fun d hd=>AQP.2 ⟨_,AO9 hW,hd⟩
   generalize Aci:s.Gr[k]=P at y y2 hp
   have AUN:=fun q=>b2 k q
   simp only[R,hp]at hr;cases P with
   |mem q=>
    obtain⟨b,cs,z1,z2,z3⟩:=y2;obtain⟨rfl,hW0⟩:=hr;obtain⟨hFe,arr,ty,fr,h1,h2,h3⟩:=g2 k b _ _ z1 z2 hG;obtain⟨b',dR,t1,t2,t3⟩:=AUN q hp;rw[AQu,z1]at t1;cases t1;rw[z2]at t2;cases t2;refine⟨by simp_all,arr,ty,fr,by simp_all,h2,nB fe h3 t3 z3⟩
   |sl d r=>
    obtain⟨b,d',z1,z2,z3,z4⟩:=y2;have:=hr b d' y z1 z2;refine⟨z3,?_⟩;rw[(ABs k b z1).2];exact EO (fun d hd=>hd.elim .inl fun h=> .inr (ATh d h)) (fun _ _=>rfl) (fun _ _=>rfl) this
   |gone=>exact hr.1
  ·simp only[ANI]
   refine⟨(AOA.1 (AOA.1 nd).2.1).1,ACe,fun d hd=>bD.lt d (by simp[hd]),fun d hd=>hd.elim (fun h=> .inl (st d h)) (fun h=> .inr (.inl h)),fun d hd=> ?_⟩;rcases hd with hd|hd|hd
   ·exact bD.cX d hd
   ·exact bD.lt d (by simp[hd])
   ·exact bD.lt d (by simp[hd])
 ·intro d hd
  exact hd.elim .inl fun h=> .inr (bD.free d (by simp[h]))
 ·intro h
  rcases h with h|h
  ·exact bD.free d (by simp[hd]) (st d h)
  grind
 grind
end Go.Fw
end
section
namespace Go.Fw
def zv:Ty→Value
 | .int k=> .int k 0
 | .bool=> .bool false
 | .str=> .string ⟨#[]⟩
 |_=> .slice none 0 0
def Ej:Ty→List Value
 | .cons c r=>zv c::Ej r
 | .unit=>[]
 |t=>[zv t]
def Ty.cell:Ty→Bool
 | .unit| .cons _ _=>false
 |_=>true
def Ty.tf:Ty→Bool
 | .cons c r=>c.cell&&r.tf
 |_=>true
def eqZ:Value→Value→Bool
 | .int k n,.int k' n' =>decide (k=k')&&decide (n=n')
 | .bool a,.bool b=>decide (a=b)
 | .string a,.string b=>decide (a.data.toList=[])&&decide (b.data.toList=[])
 | .slice none a b,.slice none c d=>decide (a=c)&&decide (b=d)
 |_,_=>false
theorem ANY{a b:Value}(h:eqZ a b=true):a=b:=by
 unfold eqZ at h;split at h
 ·simp_all
 ·simp_all
 ·rename_i a b
  simp at h;obtain⟨h1,h2⟩:=h;cases a;cases b;simp_all
 all_goals simp_all
def zO:List Value→List Value→Bool
 |[],[]=>true
 |a::l,b::m=>eqZ a b&&zO l m
 |_,_=>false
theorem yV:∀{l m:List Value},zO l m=true→l=m
 |[],[],_=>rfl
 |a::l,b::m,h=>by
  simp only[zO,ALo]at h;rw[ANY h.1,yV h.2]
 |[],_::_,h=>by simp[zO]at h
 |_::_,[],h=>by simp[zO]at h
def gi(P:Program)(t:Nat):TD→Prop
 | .int k=>P.underlying t=some (.int k)
 | .bool=>P.underlying t=some .bool
 | .str=>P.underlying t=some .string
 | .sl e=>P.underlying t=some (.slice e)
 | .ptr e=>P.underlying t=some (.pointer e)
 | .st fs=> ∃fields,P.underlying t=some (.struct fields)∧fields.toList.map (fun f=>(f.offset,f.type))=fs∧(∀f∈fields.toList,f.name≠ "_" ∧ ∃i,P.info? f.type=some i∧i.size≠0)∧
  P.stoodInHeld t=false∧P.eqGuardType P.depth t=false
 | .other=> ∃d,P.underlying t=some d∧d.isRow=false
structure ARK (P:Program) (T:Jm) (t:Nat) (ti:TI):Prop where
 info:∃i,P.info? t=some i∧i.size=ti.size∧i.bytes=ti.bytes∧(∀r,ti.row=some r→r.tf=true∧ ∃z,i.zero=some z∧z.cells.toList=Ej r)
 und:gi P t ti.desc
def En(P:Program)(T:Jm):Prop:= ∀t ti,T.get t=some ti→ARK P T t ti
def si(P:Program)(T:Jm)(t:Nat)(ti:TI):Bool:=
 (match P.info? t with
  |some i=>decide (i.size=ti.size)&&decide (i.bytes=ti.bytes)&&(match ti.row with
   |some r=>r.tf&&(match i.zero with
    |some z=>zO z.cells.toList (Ej r)
    |none=>false)
   |none=>true)
  |none=>false)&&
 (match ti.desc,P.underlying t with
  | .int k,some (.int k')=>decide (k=k')
  | .bool,some .bool=>true
  | .str,some .string=>true
  | .sl e,some (.slice e')=>decide (e=e')
  | .ptr e,some (.pointer e')=>decide (e=e')
  | .st fs,some (.struct fields)=>decide (fields.toList.map (fun f=>(f.offset,f.type))=fs)&&
    fields.toList.all (fun f=>decide (f.name≠ "_")&&(match P.info? f.type with|some i=>decide (i.size≠0)|none=>false))&&
    !P.stoodInHeld t&& !P.eqGuardType P.depth t
  | .other,some d=> !d.isRow
  |_,_=>false)
theorem sj{P:Program}{T:Jm}{t:Nat}{ti:TI}(h:si P T t ti=true):ARK P T t ti:=by
 unfold si at h;rw[ALo]at h;obtain⟨h1,h2⟩:=h;constructor
 ·split at h1
  ·rename_i i hi
   simp only[ALo,ANR]at h1;refine⟨i,hi,h1.1.1,h1.1.2,fun r hr=> ?_⟩;obtain⟨_,h3⟩:=h1;rw[hr]at h3;dsimp only at h3;rw[ALo]at h3;grind[yV]
  simp_all
 ·split at h2
  ·grind[gi]
  ·grind[gi]
  ·grind[gi]
  ·grind[gi]
  ·grind[gi]
  ·rename_i fs fields hd hu
   simp only[hd,gi];grind
  all_goals grind[gi]
def ADJ(P:Program)(T:Jm):Bool:=T.all fun q=>si P T q.1 q.2
theorem Jm.get_mem:∀{T:Jm} {t:Nat} {ti:TI},T.get t=some ti→(t,ti)∈T
 |(u,i)::l,t,ti,h=>by
  simp only[Jm.get]at h;split at h
  ·rename_i e;cases h;subst e;simp
  ·exact AU9 _ (Jm.get_mem h)
 |[],_,_,h=>by simp[Jm.get]at h
theorem pd{P:Program}{T:Jm}(h:ADJ P T=true):En P T:=fun t ti e=>
 sj (by simpa using AQj.1 h (t,ti) (Jm.get_mem e))
section
variable{P:Program} {T:Jm} (hT:En P T)
include hT
theorem En.size{t:Nat}{ti:TI}(e:T.get t=some ti):(P.info? t).map (·.size)=some ti.size:=by
 obtain⟨i,h1,h2,_⟩:=(hT t ti e).info;simp_all
theorem En.sizeOf{t:Nat}{ti:TI}(e:T.get t=some ti)(w:World):(Go.sizeOf t).run P w= .ok ti.size w:=by
 obtain⟨i,h1,h2,_⟩:=(hT t ti e).info;simp[Go.sizeOf,typeInfo,h1,h2]
omit hT in
theorem BR{t:Nat}{d:TypeDesc}(h:P.underlying t=some d)(w:World):(Go.underlying t).run P w= .ok d w:=by
 simp[Go.underlying,h]
theorem En.isAgg{t:Nat}{ti:TI}(e:T.get t=some ti)(w:World):(Go.isAgg t).run P w= .ok ti.desc.agg w:=by
 have hu:=(hT t ti e).und;unfold Go.isAgg;cases hd:ti.desc<;>rw[hd]at hu<;>simp only[gi]at hu
 case st fs=>
  obtain⟨fields,hu,_⟩:=hu;simp[BR hu,TD.agg]
 case other=>
  obtain⟨d,hu,hd⟩:=hu;rw[Sem.run_bind,BR hu];cases d<;>simp_all[TypeDesc.isRow,TD.agg]
 all_goals simp[BR hu,TD.agg]
end
end Go.Fw
end
section
namespace Go.Fw
def Lr{Y:Type}(P:Program)(o:Oper)(E:Env)(σ:St)(a:Act)(w:World)(k:K Y)(y:Y):Prop:=
 ∃v w' E' x σ',((execOp a.eval o).run P w= .ok (.value v) w'∨((execOp a.eval o).run P w= .ok .skip w'∧v=undef))∧Rel E' σ' a w'∧XR E' w' σ'.bx x v∧RP (Kk (fun _=>none) σ o.op) E σ.bx w E' σ'.bx w'∧
  σ'.tm.length=σ.tm.length∧k x σ' =some y
section
variable{Y:Type} {P:Program} {T:Jm} {o:Oper} {E:Env} {σ:St} {a:Act} {w:World} {k:K Y} {y:Y}
theorem Lr.same(h:Rel E σ a w){v:Value}{x:XV}(hr:(execOp a.eval o).run P w= .ok (.value v) w)(hx:XR E w σ.bx x v)(hk:k x σ=some y):Lr P o E σ a w k y:=
 ⟨v,w,E,x,σ,.inl hr,h,hx,RP.refl _ E σ.bx w,rfl,hk⟩
theorem bJ{vw:List Bx}{κ:IntKind}{n:Int}{v:Value}(h:VR E w vw (.v (.int κ) n) v):v= .int κ n:=by
 have:=h.2;grind[Rd]
theorem SC{vw:List Bx}{b:Bool}{v:Value}(h:VR E w vw (.v .bool b) v):v= .bool b:=by
 have:=h.2;grind[Rd]
theorem Ww{vw:List Bx}{s:AA7}{v:Value}(h:VR E w vw (.v .str s) v):v= .string ⟨s.toArray⟩:=by
 have:=h.2;grind[Rd]
theorem VR.int{vw:List Bx}(κ:IntKind)(n:Int):VR E w vw (.v (.int κ) n) (.int κ n):=⟨rfl,by rfl⟩
theorem VR.bool{vw:List Bx}(b:Bool):VR E w vw (.v .bool b) (.bool b):=⟨rfl,by rfl⟩
theorem VR.str{vw:List Bx}(s:AA7):VR E w vw (.v .str s) (.string ⟨s.toArray⟩):=⟨rfl,by rfl⟩
theorem V2(s:AA7):ByteArray.toList ⟨s.toArray⟩=s:=by
 simp_all
theorem tF(a b:AA7):(⟨a.toArray⟩:ByteArray)++⟨b.toArray⟩=⟨(a++b).toArray⟩:=by
 rfl
theorem vL(op:BinOp)(t:TypeId)(x y:Operand)(u v:Value)(hu:∀l,u≠ .agg l)(hn:u≠ .nilIface)(w:World):(eqGuard op t x y u v).run P w= .ok () w:=by
 unfold eqGuard;simp_all
theorem uO{op:BinOp}{κ:IntKind}{m n:Int}{k:AV→Option Y}{y:Y}(e:fQ op κ m n k=some y)(t:TypeId)(w:World):
  ∃z v,k z=some y∧(binOp op t (.int κ m) (.int κ n)).run P w= .ok v w∧ ∀E vw,VR E w vw z v:=by
 cases op with
 |add=>exact⟨_,.int κ (κ.wrap (m+n)),e,by simp[binOp,Op.intArith],fun _ _=>VR.int _ _⟩
 |sub=>exact⟨_,.int κ (κ.wrap (m-n)),e,by simp[binOp,Op.intArith],fun _ _=>VR.int _ _⟩
 |mul=>exact⟨_,.int κ (κ.wrap (m*n)),e,by simp[binOp,Op.intArith],fun _ _=>VR.int _ _⟩
 |and=>exact⟨_,.int κ (κ.wrap (BitVec.ofInt κ.bits m &&& BitVec.ofInt κ.bits n).toNat),e,by simp[binOp,Op.intBits],fun _ _=>VR.int _ _⟩
 |or=>exact⟨_,.int κ (κ.wrap (BitVec.ofInt κ.bits m ||| BitVec.ofInt κ.bits n).toNat),e,by simp[binOp,Op.intBits],fun _ _=>VR.int _ _⟩
 |xor=>exact⟨_,.int κ (κ.wrap (BitVec.ofInt κ.bits m ^^^ BitVec.ofInt κ.bits n).toNat),e,by simp[binOp,Op.intBits],fun _ _=>VR.int _ _⟩
 |andNot=>exact⟨_,.int κ (κ.wrap (BitVec.ofInt κ.bits m &&& ~~~BitVec.ofInt κ.bits n).toNat),e,by simp[binOp,Op.intBits],fun _ _=>VR.int _ _⟩
 |eql=>exact⟨_,.bool (m==n),e,by simp[binOp,Op.intCmp],fun _ _=>VR.bool _⟩
 |neq=>exact⟨_,.bool (m !=n),e,by simp[binOp,Op.intCmp],fun _ _=>VR.bool _⟩
 |lss=>exact⟨_,.bool (decide (m<n)),e,by simp[binOp,Op.intCmp],fun _ _=>VR.bool _⟩
 |leq=>exact⟨_,.bool (decide (m≤n)),e,by simp[binOp,Op.intCmp],fun _ _=>VR.bool _⟩
 |gtr=>exact⟨_,.bool (decide (m>n)),e,by simp[binOp,Op.intCmp],fun _ _=>VR.bool _⟩
 |geq=>exact⟨_,.bool (decide (m≥n)),e,by simp[binOp,Op.intCmp],fun _ _=>VR.bool _⟩
 |quo=>
  simp only[fQ]at e;split at e
  ·cases e
  ·rename_i hz
   exact⟨_,.int κ (κ.wrap (m.tdiv n)),e,by simp[binOp,Op.intDiv,hz],fun _ _=>VR.int _ _⟩
 |rem=>
  simp only[fQ]at e;split at e
  ·cases e
  ·rename_i hz
   exact⟨_,.int κ (m.tmod n),e,by simp[binOp,Op.intDiv,hz],fun _ _=>VR.int _ _⟩
 |_=>simp[fQ]at e
theorem fW{op:BinOp}{κ κ':IntKind}{m n:Int}{k:AV→Option Y}{y:Y}(e:YQ op κ m n k=some y)(t:TypeId)(w:World):
  ∃z v,k z=some y∧(binOp op t (.int κ m) (.int κ' n)).run P w= .ok v w∧ ∀E vw,VR E w vw z v:=by
 unfold YQ at e;split at e
 ·cases e
 ·rename_i hn
  cases op with
  |shl=>exact⟨_,.int κ (κ.wrap (m*2^min n.toNat κ.bits)),e,by simp[binOp,Op.shift,hn],fun _ _=>VR.int _ _⟩
  |shr=>exact⟨_,.int κ (m.fdiv (2^min n.toNat κ.bits)),e,by simp[binOp,Op.shift,hn],fun _ _=>VR.int _ _⟩
  |_=>simp at e
theorem u_{op:BinOp}{s u:AA7}{k:AV→Option Y}{y:Y}(e:jM op s u k=some y)(t:TypeId)(w:World):
  ∃z v,k z=some y∧(binOp op t (.string ⟨s.toArray⟩) (.string ⟨u.toArray⟩)).run P w= .ok v w∧ ∀E vw,VR E w vw z v:=by
 have h1:=V2 s;have h2:=V2 u;cases op with
 |eql=>exact⟨_,.bool (s==u),e,by simp[binOp,Op.stringOp,h1,h2],fun _ _=>VR.bool _⟩
 |neq=>exact⟨_,.bool (!(s==u)),e,by simp[binOp,Op.stringOp,h1,h2],fun _ _=>VR.bool _⟩
 |lss=>exact⟨_,.bool (Op.bytesLess s u),e,by simp[binOp,Op.stringOp,h1,h2],fun _ _=>VR.bool _⟩
 |leq=>exact⟨_,.bool (Op.bytesLess s u||s==u),e,by simp[binOp,Op.stringOp,h1,h2],fun _ _=>VR.bool _⟩
 |gtr=>exact⟨_,.bool (!(Op.bytesLess s u||s==u)),e,by simp[binOp,Op.stringOp,h1,h2],fun _ _=>VR.bool _⟩
 |geq=>exact⟨_,.bool (!Op.bytesLess s u),e,by simp[binOp,Op.stringOp,h1,h2],fun _ _=>VR.bool _⟩
 |add=>
  simp only[jM]at e;split at e
  ·rename_i hl
   refine⟨_,.string ⟨(s++u).toArray⟩,e,?_,fun _ _=>VR.str _⟩;have hs:(⟨s.toArray⟩:ByteArray).size=s.length:=by rfl
   have hu:(⟨u.toArray⟩:ByteArray).size=u.length:=by rfl
   have Xy: ¬(((⟨s.toArray⟩:ByteArray).size+(⟨u.toArray⟩:ByteArray).size:Nat):Int)>IntKind.i64.max:=by
    grind[DA,IntKind.max,IntKind.signed,IntKind.bits]
   simp only[binOp,Op.stringOp,Sem.run_ite,ALG Xy,tF];rfl
  simp_all
 |_=>simp[jM]at e
theorem tL{d:TD}{x z:AV}{p:Bool}(e:oN d x z=some p){E:Env}{w:World}{vw:List Bx}{v u:Value}(hx:VR E w vw x v)(hz:VR E w vw z u){t:TypeId}
  (hu:gi P t d) (n:Nat):(Op.equalIn (n+1) t v u).run P w= .ok p w∧d.agg=false:=by
 unfold oN at e;split at e
 ·rename_i κ j a k b
  split at e
  ·rename_i hj
   subst hj;cases e;rw[bJ hx,bJ hz];exact⟨run_equalIn_int (P:=P) w n t j κ a b hu,rfl⟩
  simp_all
 ·cases e
  rw[SC hx,SC hz];exact⟨run_equalIn_bool' (P:=P) w n t _ _ hu,rfl⟩
 ·cases e
  rename_i a b;rw[Ww hx,Ww hz];have q:=run_equalIn_string (P:=P) w n t ⟨a.toArray⟩ ⟨b.toArray⟩ hu;rw[V2,V2]at q;exact⟨q,rfl⟩
 simp_all
theorem fK{T:Jm}(hT:En P T){E:Env}{w:World}{vw:List Bx}{xs ys:Array Value}:∀{fields:List Field} {i:Nat} {l m:List AV} {vs us:List Value} {r:Bool},
  (∀f∈fields,f.name≠ "_")→i7 E w vw l vs→i7 E w vw m us→LK T i (fields.map fun f=>(f.offset,f.type)) l m=some r→
  (∀(j:Nat) v,vs[j]? =some v→xs[i+j]? =some v)→(∀(j:Nat) v,us[j]? =some v→ys[i+j]? =some v)→(Op.eqFields 9999 xs ys fields).run P w= .ok r w
 |[],i,[],[],_,_,r,_,_,_,e,_,_=>by
  simp only[AS4,LK,ALL]at e;subst e;rfl
 |f::fs,i,x::l,z::m,v::vs,u::us,r,hn,hx,hz,e,h1,h2=>by
  simp only[ARf,LK]at e;split at e
  case isFalse=>cases e
  rename_i ho;have hv:=h1 0 v rfl;have hu:=h2 0 u rfl;simp only[AQ2]at hv hu;have AS3:=hn f (by simp);split at e
  case h_2=>cases e
  rename_i ti Uy;split at e
  case h_2=>cases e
  rename_i p hp;simp only[ALN]at e;obtain⟨r',e',rfl⟩:=e;have AZF:=fK hT (fields:=fs) (i:=i+1) (l:=l) (m:=m) (vs:=vs) (us:=us) (r:=r') (fun f hf=>hn f (by simp[hf])) hx.2 hz.2 e'
   (fun j v' hj=>by have:=h1 (j+1) v' (by simp_all);rwa [show i+(j+1)=i+1+j by omega]at this)
   (fun j v' hj=>by have:=h2 (j+1) v' (by simp_all);rwa [show i+(j+1)=i+1+j by omega]at this)
  have gz:=(hT f.type ti Uy).und;obtain⟨q,na⟩:=tL (P:=P) hp hx.1 hz.1 (t:=f.type) gz 9998;have jT:=En.isAgg hT Uy w;rw[na]at jT;have p1:(part f.type xs f.offset).run P w= .ok v w:=by simp[part,jT,ho,hv]
  have p2:(part f.type ys f.offset).run P w= .ok u w:=by simp[part,jT,ho,hu]
  simp only[Op.eqFields,AS3,ne_eq,not_false_eq_true,AQV,Sem.run_bind,p1,p2,Result.andThen_ok,q,AZF,Sem.run_ite,Sem.run_pure];grind
 |[],_,_::_,_,_,_,_,_,_,_,e,_,_=>by simp[LK]at e
 |[],_,[],_::_,_,_,_,_,_,_,e,_,_=>by simp[LK]at e
 |_::_,_,[],_,_,_,_,_,_,_,e,_,_=>by simp[LK]at e
 |_::_,_,x::_,[],_,_,_,_,_,_,e,_,_=>by simp[LK]at e
 |_::_,_,_::_,_::_,[],_,_,_,hx,_,_,_,_=>hx.elim
 |_::_,_,_::_,_::_,_::_,[],_,_,_,hz,_,_,_=>hz.elim
theorem nO(op:BinOp)(t:TypeId)(p q:Bool)(hu:P.underlying t=some .bool)(w:World):(op= .eql→(binOp op t (.bool p) (.bool q)).run P w= .ok (.bool (p==q)) w)∧
  (op= .neq→(binOp op t (.bool p) (.bool q)).run P w= .ok (.bool (!(p==q))) w):=by
 have h:=run_equalIn_bool' (P:=P) w 9999 t p q hu;constructor
 ·rintro rfl
  grind[binOp,Op.equal,Op.maxDepth,Sem.run_bind,Result.andThen_ok,Sem.run_pure]
 ·rintro rfl
  grind[binOp,Op.equal,Op.maxDepth,Sem.run_bind,Result.andThen_ok,Sem.run_pure]
theorem gU{T:Jm}(hT:En P T){t:Nat}{op:BinOp}{x z:XV}{k:AV→Option Y}{y:Y}(e:vz T t op x z k=some y){E:Env}{w:World}{vw:List Bx}{v u:Value}
  (hx:XR E w vw x v) (hz:XR E w vw z u) (ox oz:Operand):
  ∃r val,k r=some y∧(do eqGuard op t ox oz v u;binOp op t v u:Sem Value).run P w= .ok val w∧VR E w vw r val:=by
 have guard:∀(v u:Value),(∀l,v≠ .agg l)→v≠ .nilIface→ ∀val,(binOp op t v u).run P w= .ok val w→(do eqGuard op t ox oz v u;binOp op t v u:Sem Value).run P w= .ok val w:=by
  grind[Sem.run_bind,vL,Result.andThen_ok]
 unfold vz at e;split at e
 ·rename_i j m j' n
  have hv:=bJ (E:=E) (vw:=vw) hx;have hu:=bJ (E:=E) (vw:=vw) hz;subst hv hu;have done:∀(q:∃r val,k r=some y∧(binOp op t (.int j m) (.int j' n)).run P w= .ok val w∧ ∀E vw,VR E w vw r val),∃r val,k r=some y∧(do eqGuard op t ox oz (.int j m) (.int j' n);binOp op t (.int j m) (.int j' n):Sem Value).run P w= .ok val w∧VR E w vw r val:=by
   grind
  split at e
  ·exact done (fW e t w)
  ·exact done (fW e t w)
  ·split at e
   ·rename_i hj
    subst hj;exact done (uO e t w)
   simp_all
 ·rename_i s s'
  have hv:=Ww (E:=E) (vw:=vw) hx;have hu:=Ww (E:=E) (vw:=vw) hz;subst hv hu;obtain⟨r,val,h1,h2,h3⟩:=u_ (P:=P) e t w;grind
 ·rename_i p q
  have hv:=SC (E:=E) (vw:=vw) hx;have hu:=SC (E:=E) (vw:=vw) hz;subst hv hu;split at e
  ·rename_i ti Uy
   have gz:=(hT t ti Uy).und;split at e
   ·rename_i hd
    rw[hd]at gz;split at e
    ·exact⟨_,_,e,guard _ _ (by simp) (by simp) _ ((nO _ t p q gz w).1 rfl),VR.bool _⟩
    ·exact⟨_,_,e,guard _ _ (by simp) (by simp) _ ((nO _ t p q gz w).2 rfl),VR.bool _⟩
    simp_all
   simp_all
  simp_all
 ·rename_i l m
  obtain⟨vs,rfl,Vt⟩:=hx;obtain⟨us,rfl,hus⟩:=hz;have key:∀r,((T.fields t).bind fun fs=>LK T 0 fs l m)=some r→(Op.equalIn 10000 t (.agg vs) (.agg us)).run P w= .ok r w∧P.eqGuardType P.depth t=false:=by
   intro r hr;simp only[ALe]at hr;obtain⟨fs,hf,hr⟩:=hr;unfold Jm.fields at hf;split at hf
   ·rename_i fs' hd
    cases hf;simp only[ALN]at hd;obtain⟨ti,Uy,hd⟩:=hd;have gz:=(hT t ti Uy).und;rw[hd]at gz;obtain⟨fields,hu,hfs,hnm,qE,hg⟩:=gz;grind[Program.fieldsOf,run_equalIn_agg,fK]
   simp_all
  split at e
  ·rename_i r hr
   obtain⟨q,hg⟩:=key r hr;refine⟨_,_,e,?_,VR.bool r⟩;grind[Sem.run_bind,run_eqGuard_agg,Result.andThen_ok,run_eql_struct]
  ·rename_i r hr
   obtain⟨q,hg⟩:=key r hr;refine⟨_,_,e,?_,VR.bool (!r)⟩;grind[Sem.run_bind,run_eqGuard_agg,Result.andThen_ok,run_neq_struct]
  simp_all
 simp_all
end
end Go.Fw
end
section
namespace Go.Fw
section
variable{Y:Type} {P:Program} {T:Jm} (hT:En P T) {E:Env} {w:World} {vw:List Bx}
include hT
theorem AFL{t:Nat}{s b:Nat}{fs:List ABj}{rw:Option Ty}(e:T.get t=some ⟨s,b,.st fs,rw⟩):∃fields,P.underlying t=some (.struct fields)∧fields.toList.map (fun f=>(f.offset,f.type))=fs∧
  ∀f∈fields.toList,∃i,P.info? f.type=some i∧i.size≠0:=by
 obtain⟨fields,h1,h2,h3,_⟩:=(hT t _ e).und;simp_all
omit hT in
theorem oy{a:Addr}{f:Field}(h:∃i,P.info? f.type=some i∧i.size≠0):(fieldPlace a f).run P w= .ok (a.add f.offset) w:=by
 obtain⟨i,h1,h2⟩:=h;simp[fieldPlace,Go.sizeOf,typeInfo,h1,h2]
theorem U1{t:Nat}{s b:Nat}{fs:List ABj}{rw:Option Ty}(e:T.get t=some ⟨s,b,.st fs,rw⟩){f o u:Nat}(hf:fs[f]? =some (o,u)){a:Addr}:
  (Instr.fieldAt t (.pointer (some a)) f).run P w= .ok (.pointer (some (a.add o))) w:=by
 obtain⟨fields,h1,h2,h3⟩:=AFL hT e;subst h2;simp only[AQN,ALN]at hf;obtain⟨fld,wC,he⟩:=hf;have hm:=AO9 wC;have hfa:fields[f]? =some fld:=by simp_all
 simp only[AQD]at he;simp[Instr.fieldAt,BR h1,hfa,Instr.sureAddr,oy (h3 fld hm),he.1]
theorem iu{t:Nat}{x z:XV}{f:Nat}(e:th T t x f=some z){v:Value}(hx:XR E w vw x v):∃u,(Instr.fieldAt t v f).run P w= .ok u w∧XR E w vw z u:=by
 unfold th at e;split at e
 case h_2=>cases e
 rename_i s b fs _ Uy;split at e
 case h_2=>cases e
 rename_i o u hf;split at e
 ·rename_i b' j
  cases e;obtain⟨h1,rfl⟩:=hx;exact⟨_,U1 hT Uy hf,h1,by rw[Addr.add_eq]⟩
 ·rename_i b' p i sz j
  cases e;obtain⟨h0,h1⟩:=hx;cases v with
  |pointer oa=>
   cases oa with
   |none=>simp[bn]at h0
   |some a=>
    obtain⟨ab,ao,sp⟩:=a;cases sp with
    |some _=>simp[bn]at h0
    |none=>
     refine⟨_,U1 hT Uy hf,by rw[Addr.add_eq];rfl,?_⟩;revert h1;split
     ·rintro⟨hp,q,ys,bb,o',len,cap,g1,g2,g3,g4⟩
      refine⟨hp,q,ys,bb,o',len,cap,g1,g2,g3,?_⟩;simp only[Value.pointer.injEq,ALL,Addr.mk.injEq,AQc]at g4;grind[Addr.add_eq,Nat.add_assoc]
     all_goals simp_all
  |_=>simp[bn]at h0
 ·rename_i s r y j
  cases e;obtain⟨bb,o',cs,rfl,h2,h3,h4,h5⟩:=hx;refine⟨_,U1 hT Uy hf,bb,o',cs,?_,h2,h3,h4,h5⟩;rw[Addr.add_eq,AQz]
 simp_all
theorem lh{t:Nat}{x z:XV}{f:Nat}(e:ADm T t x f=some z){v:Value}(hx:XR E w vw x v):∃u,(Instr.field t v f).run P w= .ok u w∧XR E w vw z u:=by
 unfold ADm at e;split at e
 case h_2=>cases e
 rename_i s b fs _ l Uy;obtain⟨vs,rfl,Vt⟩:=hx;split at e
 case h_2=>cases e
 rename_i o u hf;split at e
 case h_2=>cases e
 rename_i ti htu;obtain⟨fields,h1,h2,h3⟩:=AFL hT Uy;subst h2;simp only[AQN,ALN]at hf;obtain⟨fld,wC,he⟩:=hf;have hfa:fields[f]? =some fld:=by simp_all
 simp only[AQD]at he;obtain⟨rfl,rfl⟩:=he;have jT:=En.isAgg hT htu w;have PQ:=En.sizeOf hT htu w;split at e
 ·rename_i ha
  cases e;rw[ha]at jT;refine⟨.agg (vs.extract fld.offset (fld.offset+ti.size)),?_,_,rfl,?_⟩
  ·simp[Instr.field,BR h1,hfa,asAgg,part,jT,PQ]
  ·have:(vs.extract fld.offset (fld.offset+ti.size)).toList=(vs.toList.drop fld.offset).take ti.size:=by
    simp_all
   rw[this];exact CR.take _ (CR.drop _ Vt)
 ·rename_i ha
  simp only[APR]at ha;rw[ha]at jT;simp only[ALN]at e;obtain⟨y,hy,rfl⟩:=e;obtain⟨v,hv,hr⟩:=CR.get Vt hy;refine⟨v,?_,hr⟩;have:vs[fld.offset]? =some v:=by simp_all
  simp[Instr.field,BR h1,hfa,asAgg,part,jT,this]
theorem Ka{t:Nat}{r:Ty}(h:T.NP t r=true):∃e ti,P.underlying t=some (.slice e)∧T.get e=some ti∧ti.size=r.n∧ti.bytes≤512∧ti.row=some r:=by
 unfold Jm.NP at h;split at h
 ·rename_i ti Uy
  simp only[ALo,ANR]at h;unfold Jm.elem at Uy;split at Uy
  ·rename_i e hd
   simp only[ALN]at hd;obtain⟨tj,h1,h2⟩:=hd;have:=(hT t tj h1).und;rw[h2]at this;exact⟨e,ti,this,Uy,h.1.1,h.1.2,h.2⟩
  simp_all
 simp_all
theorem XS{t:Nat}(h:T.isStr t=true):P.underlying t=some .string:=by
 unfold Jm.isStr at h;split at h
 ·rename_i hd
  simp only[ALN]at hd;obtain⟨tj,h1,h2⟩:=hd;have:=(hT t tj h1).und;rw[h2]at this;exact this
 simp_all
theorem kg{t:Nat}(h:T.AHQ t=true):∃e,P.underlying t=some (.slice e):=by
 unfold Jm.AHQ at h;split at h
 ·rename_i e hd
  simp only[ALN]at hd;obtain⟨tj,h1,h2⟩:=hd;have:=(hT t tj h1).und;rw[h2]at this;exact⟨e,this⟩
 simp_all
omit hT in
theorem Io{x:XV}{n:Int}(e:cy x=some n){v:Value}(hx:XR E w vw x v):∃κ,v= .int κ n:=by
 unfold cy at e;split at e
 ·cases e;exact⟨_,bJ (E:=E) (w:=w) (vw:=vw) hx⟩
 ·cases e
theorem du{t:Nat}{r:Ty}(h:T.NP t r=true){κ:IntKind}{i:Int}{a:Addr}{len cap:Nat}(h0:0≤i)(h1:i<(len:Int)):
  (Instr.indexAt t (.slice (some a) len cap) (.int κ i)).run P w= .ok (.pointer (some (a.add (i.toNat*r.n)))) w:=by
 obtain⟨e,ti,hu,Uy,hs,_⟩:=Ka hT h;have PQ:=En.sizeOf hT Uy w;simp[Instr.indexAt,asIntOf,BR hu,h0,h1,PQ,hs]
omit hT in
theorem xP{bx:List Bx}{Fs:List AAs}(hB:NV E w bx bx Fs)(st:∀c,E.S c→E.T c){x:AV}{v:Value}(hv:VR E w bx x v){q:Ty}{ys:List q.D}(e:NU bx x=some ⟨q,ys⟩):
  ∃a cap,v= .slice a ys.length cap∧ys.length≤cap∧(ys.length=0∨ ∃b o,a=some ⟨b,o,none⟩):=by
 have:=Z7 (FG.refl bx) hB st hv e;simp only[Rd]at this;obtain⟨a,cap,h1,h2,h3⟩:=this;simp only[APx,AQc]at h1;exact⟨a,cap,h1,h2,h3.imp id fun⟨b,o,h,_⟩=>⟨b,o,h⟩⟩
theorem iJ{σ:St}{Fs:List AAs}(hB:NV E w σ.bx σ.bx Fs)(st:∀c,E.S c→E.T c){t:Nat}{x i:XV}{k:K Y}{y:Y}(e:jZ σ T t x i k=some y){v u:Value}
  (hx:XR E w σ.bx x v) (hi:XR E w σ.bx i u):∃z val,k z σ=some y∧(Instr.indexAt t v u).run P w= .ok val w∧XR E w σ.bx z val:=by
 unfold jZ at e;split at e
 ·rename_i s r rows n hn
  obtain⟨κ,rfl⟩:=Io hn hi;split at e
  case isFalse=>cases e
  rename_i Uj;split at e
  case isFalse=>cases e
  rename_i hb;obtain⟨h0,h1⟩:=hb;simp only[XR,VR,Rd]at hx;obtain⟨a,cap,hv,hl,hx⟩:=hx;simp only[APx,AQc]at hv;subst hv;rcases hx with hx|⟨b,o,rfl,hb,hx⟩
  ·omega
  ·have Hw:n.toNat<rows.length:=by omega
   obtain⟨cs,c1,c2,c3⟩:=hx n.toNat _ (Qs Hw);refine⟨_,_,e,du hT Uj h0 h1,b,o+n.toNat*r.n,cs,?_,by omega,c1,c2,by omega⟩;rw[Addr.add_eq];rfl
 ·rename_i b p n hn
  obtain⟨κ,rfl⟩:=Io hn hi;split at e
  case h_2=>cases e
  rename_i q hq;split at e
  case isFalse=>cases e
  rename_i Uj;split at e
  case isFalse=>cases e
  rename_i hb;obtain⟨h0,h1⟩:=hb
  change VR E w σ.bx (.ref b p) v at hx
  obtain⟨a,cap,rfl,hl,ha⟩:=xP hB st hx hq;rcases ha with ha|⟨b',o,rfl⟩
  ·omega
  ·refine⟨_,_,e,du hT Uj h0 h1,by rw[Addr.add_eq];rfl,?_⟩
   simp only[NU]at hq;obtain⟨_,hx⟩:=hx;grind[Addr.add_eq]
 ·rename_i b p off n' n hn
  obtain⟨κ,rfl⟩:=Io hn hi;split at e
  case h_2=>cases e
  rename_i q hq;split at e
  case isFalse=>cases e
  rename_i Uj;split at e
  case isFalse=>cases e
  rename_i hb;obtain⟨h0,h1⟩:=hb;simp only[NU]at hq;obtain⟨h00,hx⟩:=hx;revert hx;split
  ·rename_i d r rows tv
   rw[tv]at hq;dsimp only at hq
   rintro⟨hp,q',ys,a,len,cap,g1,g2,g3,rfl⟩
   have Xu:=dh (FG.refl _) hB st tv hp g1 g3;simp only[Rd]at Xu;obtain⟨a',cap',ee,hle,Xu⟩:=Xu;simp only[APx,Value.slice.injEq,AQc]at ee;obtain⟨rfl,rfl,rfl⟩:=ee;rcases Xu with Xu|⟨b',o,rfl,_,_⟩
   ·omega
   ·unfold VJ
    rw[ALG (by omega)];have hq1:q.1=q':=by
     grind
    refine⟨_,_,e,du hT Uj h0 h1,by simp only[Option.map];rw[Addr.add_eq,Addr.add_eq];rfl,?_⟩;grind[Addr.add_eq,Nat.add_assoc,Nat.add_mul]
  all_goals simp_all
 simp_all
theorem bo{σ:St}{t:Nat}{x i:XV}{k:K Y}{y:Y}(e:Wb T t σ x i k=some y){v u:Value}(hx:XR E w vw x v)(hi:XR E w vw i u):
  ∃z val,k z σ=some y∧(Instr.index t v u).run P w= .ok val w∧XR E w vw z val:=by
 unfold Wb at e;split at e
 ·rename_i s n hn
  obtain⟨κ,rfl⟩:=Io hn hi;have hv:=Ww (E:=E) (w:=w) (vw:=vw) hx;subst hv;split at e
  case isFalse=>cases e
  rename_i qE;split at e
  case isFalse=>cases e
  rename_i hb;obtain⟨h0,h1⟩:=hb;refine⟨_,.int .u8 ((s.getD n.toNat 0).toNat:Int),e,?_,VR.int (E:=E) (vw:=vw) _ _⟩;have Hw:n.toNat<s.length:=by omega
  have:(⟨s.toArray⟩:ByteArray)[n.toNat]? =some s[n.toNat]:=by
   rw[getElem?_pos _ _ (by grind[ByteArray.size])];rfl
  simp[Instr.index,asIntOf,BR (XS hT qE),h0,this,Hw]
 simp_all
omit hT in
theorem d_{x z:XV}{i:Nat}(e:pY x i=some z){v:Value}(hx:XR E w vw x v):∃u,(Instr.extract v i).run P w= .ok u w∧XR E w vw z u:=by
 unfold pY at e;split at e
 case h_2=>cases e
 rename_i l;obtain⟨vs,rfl,Vt⟩:=hx;split at e
 ·rename_i x hx
  cases e;obtain⟨v,hv,hr⟩:=Vt.get hx;have:vs[i]? =some v:=by simpa using hv
  exact⟨v,by simp[Instr.extract,this],hr⟩
 ·rename_i q hx
  cases e;obtain⟨v,hv,ws,rfl,hr⟩:=Vt.get hx;have:vs[i]? =some (.agg ws):=by simpa using hv
  exact⟨.agg ws,by simp[Instr.extract,this],ws,rfl,hr⟩
 ·cases e
omit hT in
theorem lF{bx:List Bx}{Fs:List AAs}(hB:NV E w bx bx Fs)(st:∀c,E.S c→E.T c){x:AV}{n:Nat}(e:lenOf bx x=some n){v:Value}(hx:VR E w bx x v):
  ∃a cap,v= .slice a n cap:=by
 cases x with
 |nil=>simp only[lenOf,ALL]at e;subst e;exact⟨_,_,hx⟩
 |sl s r x=>
  simp only[lenOf,ALL]at e;subst e;simp only[VR,Rd]at hx;obtain⟨a,cap,h,_⟩:=hx;simp only[APx,AQc]at h;exact⟨a,cap,h⟩
 |ref b p=>
  simp only[lenOf]at e;split at e
  ·rename_i d r rows hb
   simp only[ALN]at e;obtain⟨q,hq,rfl⟩:=e;obtain⟨a,cap,h,_⟩:=xP hB st hx (q:=q.1) (ys:=q.2) (by simp only[NU,hb];exact hq);exact⟨a,cap,h⟩
  ·cases e
 |win b p off m=>
  simp only[lenOf]at e;split at e
  ·rename_i d r rows hb
   cases e;simp only[VR,hb]at hx;obtain⟨_,_,q,ys,a,len,cap,_,_,_,rfl⟩:=hx;exact⟨_,_,rfl⟩
  ·cases e
 |_=>simp[lenOf]at e
omit hT in
theorem Te{big:Bool}{x z:XV}{k:AV→Option Y}{y:Y}(e:tO big x z k=some y){v u:Value}(hx:XR E w vw x v)(hz:XR E w vw z u)(t s:Array TypeId)(tt:TypeId):
  ∃r val,k r=some y∧(if big then Builtin.max_ t tt #[v,u]else Builtin.min_ t tt #[v,u]).run P w= .ok val w∧VR E w vw r val:=by
 unfold tO at e;split at e
 ·rename_i j m j' n
  have hv:=bJ (E:=E) (w:=w) (vw:=vw) hx;have hu:=bJ (E:=E) (w:=w) (vw:=vw) hz;subst hv hu;split at e
  case isFalse=>cases e
  rename_i hj;subst hj;cases big with
  |true=>exact⟨_,.int j (if n>m then n else m),e,by simp[Builtin.max_,Builtin.max2],VR.int _ _⟩
  |false=>exact⟨_,.int j (if n<m then n else m),e,by simp[Builtin.min_,Builtin.min2],VR.int _ _⟩
 ·cases e
omit hT in
theorem jz{op:UnOp}{x:XV}{k:AV→Option Y}{y:Y}(e:unX op x k=some y){v:Value}(hx:XR E w vw x v):
  ∃r val,k r=some y∧(Op.unary op v).run P w= .ok val w∧VR E w vw r val:=by
 unfold unX at e;split at e
 ·have hv:=SC (E:=E) (w:=w) (vw:=vw) hx
  subst hv;exact⟨_,_,e,by simp[Op.unary],VR.bool _⟩
 ·rename_i j n
  have hv:=bJ (E:=E) (w:=w) (vw:=vw) hx;subst hv;exact⟨_,.int j (j.wrap (0-n)),e,by simp[Op.unary,Op.intArith],VR.int _ _⟩
 ·cases e
end
end Go.Fw
end
section
namespace Go.Fw
theorem Q4{a:Ty}(x:a.D):oB rfl x=x:=rfl
theorem eF{w:World}{S:Nat→Prop}:∀{r:Ty} {d j:Nat} {cs:List Value} {x:r.D} {F:AAs} {t:Ty} {y:t.D},Ow w S d r cs x F→BK r j x=some ⟨t,y⟩→
  ∃v F1 F2,cs[j]? =some v∧Ow w S d t [v] y F1∧F.Perm (F1++F2)∧
   ∀(w':World) (S':Nat→Prop) (v':Value) (y':t.D) (my:AAs) (x':r.D),(∀b,S b→S' b)→(∀b,S b→w'.heap[b]? =w.heap[b]?)→(∀b∈F2,w'.heap[b]? =w.heap[b]?)→
    Ow w' S' d t [v'] y' my→Dt r j x t y' =some x'→ ∃F',F'.Perm (my++F2)∧Ow w' S' d r (cs.set j v') x' F'
 | .cons c r,d,0,cs,x,F,t,y,h,e=>by
  simp only[Ow]at h;obtain⟨v,l,A,B,rfl,rfl,h1,h2⟩:=h;simp only[BK,ALL,ANo]at e;obtain⟨rfl,e⟩:=e;obtain rfl:=AQJ e;refine⟨v,A,B,rfl,h1,AVF _,fun w' S' v' y' my x' hS rN hF ho hx=> ?_⟩;simp only[Dt,AUk,Q4,ALL]at hx;subst hx;refine⟨my++B,AVF _,?_⟩;simp only[Ow,ARg];exact⟨v',l,my,B,rfl,rfl,ho,EO hS rN hF h2⟩
 | .cons c r,d,j+1,cs,x,F,t,y,h,e=>by
  simp only[Ow]at h;obtain⟨v,l,A,B,rfl,rfl,h1,h2⟩:=h;simp only[BK]at e;obtain⟨u,F1,F2,k1,k2,k3,k4⟩:=eF h2 e;refine⟨u,F1,A++F2,by simp_all,k2,?_,fun w' S' v' y' my x' hS rN hF ho hx=> ?_⟩
  ·grind
  ·simp only[Dt,ALN]at hx
   obtain⟨z,hz,rfl⟩:=hx;obtain⟨F',p1,p2⟩:=k4 w' S' v' y' my z hS rN (fun b hb=>hF b (by simp[hb])) ho hz;refine⟨A++F',?_,?_⟩
   ·grind
   ·simp only[Ow,List.set_cons_succ]
    exact⟨v,_,A,F',rfl,rfl,EO hS rN (fun b hb=>hF b (by simp[hb])) h1,p2⟩
 | .int k,d,0,cs,x,F,t,y,h,e=>by
  simp only[BK,ALL,ANo]at e;obtain⟨rfl,e⟩:=e;obtain rfl:=AQJ e;have hc:=Xh h;obtain⟨v,rfl⟩:∃v,cs=[v]:=by
   cases cs with
   |nil=>simp[Ty.n]at hc
   |cons a l=>cases l with
    |nil=>simp_all
    |cons _ _=>simp[Ty.n]at hc
  refine⟨v,F,[],rfl,h,by simp,fun w' S' v' y' my x' hS rN hF ho hx=>⟨my,by simp,?_⟩⟩;simp only[Dt,AUk,Q4,ALL]at hx;simp_all
 | .bool,d,0,cs,x,F,t,y,h,e=>by
  simp only[BK,ALL,ANo]at e;obtain⟨rfl,e⟩:=e;obtain rfl:=AQJ e;have hc:=Xh h;obtain⟨v,rfl⟩:∃v,cs=[v]:=by
   cases cs with
   |nil=>simp[Ty.n]at hc
   |cons a l=>cases l with
    |nil=>simp_all
    |cons _ _=>simp[Ty.n]at hc
  refine⟨v,F,[],rfl,h,by simp,fun w' S' v' y' my x' hS rN hF ho hx=>⟨my,by simp,?_⟩⟩;simp only[Dt,AUk,Q4,ALL]at hx;simp_all
 | .str,d,0,cs,x,F,t,y,h,e=>by
  simp only[BK,ALL,ANo]at e;obtain⟨rfl,e⟩:=e;obtain rfl:=AQJ e;have hc:=Xh h;obtain⟨v,rfl⟩:∃v,cs=[v]:=by
   cases cs with
   |nil=>simp[Ty.n]at hc
   |cons a l=>cases l with
    |nil=>simp_all
    |cons _ _=>simp[Ty.n]at hc
  refine⟨v,F,[],rfl,h,by simp,fun w' S' v' y' my x' hS rN hF ho hx=>⟨my,by simp,?_⟩⟩;simp only[Dt,AUk,Q4,ALL]at hx;simp_all
 | .sl r,d,0,cs,x,F,t,y,h,e=>by
  simp only[BK,ALL,ANo]at e;obtain⟨rfl,e⟩:=e;obtain rfl:=AQJ e;have hc:=Xh h;obtain⟨v,rfl⟩:∃v,cs=[v]:=by
   cases cs with
   |nil=>simp[Ty.n]at hc
   |cons a l=>cases l with
    |nil=>simp_all
    |cons _ _=>simp[Ty.n]at hc
  refine⟨v,F,[],rfl,h,by simp,fun w' S' v' y' my x' hS rN hF ho hx=>⟨my,by simp,?_⟩⟩;simp only[Dt,AUk,Q4,ALL]at hx;simp_all
 | .unit,_,_,_,_,_,_,_,_,e=>by simp[BK]at e
 | .int _,_,_+1,_,_,_,_,_,_,e=>by simp[BK]at e
 | .bool,_,_+1,_,_,_,_,_,_,e=>by simp[BK]at e
 | .str,_,_+1,_,_,_,_,_,_,e=>by simp[BK]at e
 | .sl _,_,_+1,_,_,_,_,_,_,e=>by simp[BK]at e
theorem kq{Fs:List AAs}{i:Nat}{G G':AAs}(h:Fs[i]? =some G):(Fs.set i G').flatten.Perm (G'++(Fs.set i []).flatten):=by
 have Hw:=(ALO.1 h).1;have p1:=Un (Fs:=Fs.set i G') (b:=i) (F:=G') (AQl (by omega));simp_all
theorem td{w:World}{S:Nat→Prop}{d:Nat}{q:Ty}{a:Option Addr}{len cap:Nat}{ys:List q.D}{F:AAs}(h:Ow w S (d+1) (.sl q) [.slice a len cap] ys F){i:Nat}(hi:i<ys.length):
  ∃b o arr ty fr cs G R,a=some ⟨b,o,none⟩∧w.heap[b]? =some (.cells arr ty fr)∧v_ fr arr.size∧o+i*q.n+q.n≤arr.size∧cs.length=q.n∧BT w b (o+i*q.n) cs∧
   Ow w S d q cs (rowAt q ys i) G∧F.Perm (G++(b::R))∧
   ∀(w':World) (S':Nat→Prop) (KI:Array Value) (dR:List Value) (Z3:q.D) (G':AAs),(∀c,S c→S' c)→(∀c,S c→w'.heap[c]? =w.heap[c]?)→(∀c∈R,w'.heap[c]? =w.heap[c]?)→
    w'.heap[b]? =some (.cells KI ty fr)→KI.size=arr.size→(∀k,(k<o+i*q.n∨o+i*q.n+q.n≤k)→KI[k]? =arr[k]?)→dR.length=q.n→BT w' b (o+i*q.n) dR→
    Ow w' S' d q dR Z3 G'→ ∃F',F'.Perm (G'++(b::R))∧Ow w' S' (d+1) (.sl q) [.slice a len cap] (ys.set i Z3) F':=by
 simp only[Ow]at h;obtain⟨a',cap',e,hle,h⟩:=h;simp only[APx,Value.slice.injEq,AQc]at e;obtain⟨rfl,rfl,rfl⟩:=e;rcases h with⟨h1,_⟩|⟨b,o,arr,ty,fr,Fs,rfl,hb,PQ,hu,rfl,hFl,cI⟩
 ·omega
 ·have hG:Fs[i]? =some (Fs[i]'(by omega)):=ALD _
  generalize Fs[i]'(by omega)=G at hG
  obtain⟨cs,c1,c2,c3⟩:=cI i _ G (Qs hi) hG;have hbound:o+i*q.n+q.n≤arr.size:=by
   have:(i+1)*q.n≤cap*q.n:=AOr _ (by omega);grind
  refine⟨b,o,arr,ty,fr,cs,G,(Fs.set i []).flatten,rfl,hb,fun i hi=>hu i (by omega),hbound,c1,c2,c3,?_,?_⟩
  ·refine(List.Perm.cons b (Un hG)).trans ?_
   exact List.perm_middle.symm
  ·intro w' S' KI dR Z3 G' hS rN hR uv hs' hk YF hca ho
   refine⟨b::(Fs.set i G').flatten,?_,?_⟩
   ·grind[List.Perm.cons,kq,trans]
   ·simp only[Ow]
    refine⟨_,cap,by simp,by simp_all,.inr ⟨b,o,KI,ty,fr,Fs.set i G',rfl,uv,by omega,by simp_all,rfl,by simp_all,fun k y H hy hH=> ?_⟩⟩;by_cases e:k=i
    ·grind
    ·rw[AQQ (by omega)]at hy
     rw[AQQ (by omega)]at hH;obtain⟨ds,d1,d2,d3⟩:=cI k y H hy hH;refine⟨ds,d1,fun j v hj=> ?_,EO hS rN (fun c hc=>hR c (AQP.2 ⟨H,AO9 (by grind:(Fs.set i [])[k]? =some H),hc⟩)) d3⟩;have wI:=(ALO.1 hj).1;have hold:=d2 j v hj;simp only[World.cell?,hb,AQh,AL6,APB]at hold;simp only[World.cell?,uv,AQh,AL6,APB];rw[hk,hold];rcases Nat.lt_or_gt_of_ne e with e|e
     ·left
      have:(k+1)*q.n≤i*q.n:=AOr _ e;grind
     ·right
      have:(i+1)*q.n≤k*q.n:=AOr _ e;grind
theorem nU{w:World}{S:Nat→Prop}:∀{p:List ky} {d:Nat} {r:Ty} {h:Value} {rows:List r.D} {F:AAs} {q:Ty} {ys:List q.D},Ow w S d (.sl r) [h] rows F→C_ r rows p→
  G3 r rows p=some ⟨q,ys⟩→p.length<d→ ∃h' F1 F2,I2 w h p=some h'∧Ow w S (d-p.length) (.sl q) [h'] ys F1∧F.Perm (F1++F2)∧
   ∀(w':World) (S':Nat→Prop) (tw:List q.D) (my:AAs) (Cx:List r.D),(∀c,S c→S' c)→(∀c,S c→w'.heap[c]? =w.heap[c]?)→(∀c∈F2,w'.heap[c]? =w.heap[c]?)→
    Ow w' S' (d-p.length) (.sl q) [h'] tw my→oG r rows p q tw=some Cx→ ∃F',F'.Perm (my++F2)∧Ow w' S' d (.sl r) [h] Cx F'
 |[],d,r,h,rows,F,q,ys,ho,_,hg,_=>by
  simp only[G3,ALL,ANo]at hg;obtain⟨rfl,e⟩:=hg;obtain rfl:=AQJ e;refine⟨h,F,[],C4,ho,by simp,fun w' S' tw my Cx _ _ _ wB hs=>⟨my,by simp,?_⟩⟩;simp only[oG,AUk,Q4,ALL]at hs;simp_all
 |s::p,d,r,h,rows,F,q,ys,ho,hp,hg,hd=>by
  obtain⟨d,rfl⟩:∃n,d=n+1:=⟨d-1,by omega⟩;simp only[C_]at hp;obtain⟨hi,PQ,hp⟩:=hp;simp only[G3]at hg;obtain⟨a,len,cap,rfl⟩:∃a len cap,h= .slice a len cap:=by
   have:=ho;simp only[Ow]at this;grind
  split at hg
  case h_2=>cases hg
  rename_i q' x' gY;rw[gY]at hp;obtain⟨b,o,arr,ty,fr,cs,G,R,rfl,hb,hu,hbd,c1,c2,c3,nG,hback⟩:=td ho hi;obtain⟨v,A1,A2,k1,k2,k3,k4⟩:=eF c3 gY;obtain⟨h',F1,F2,m1,m2,m3,m4⟩:=nU k2 hp hg (by simp_all);have AOv:d+1-(s::p).length=d-p.length:=by simp
  refine⟨h',F1,F2++A2++(b::R),?_,by simp_all,?_,?_⟩
  ·simp only[I2]
   rw[PQ,c2 _ _ k1];omega
  ·grind
  ·intro w' S' tw my Cx hS rN hF2 wB UZ
   rw[AOv]at wB;simp only[oG,gY]at UZ;simp only[ALe,ALN]at UZ;obtain⟨x2,hx2,Z3,hrow,rfl⟩:=UZ;obtain⟨B1,p1,p2⟩:=m4 w' S' tw my x2 hS rN (fun c hc=>hF2 c (by simp[hc])) wB hx2;obtain⟨B2,p3,p4⟩:=k4 w' S' v x2 B1 Z3 hS rN (fun c hc=>hF2 c (by simp[hc])) p2 hrow;have AFv:cs.set s.j v=cs:=by
    apply ARn;grind
   rw[AFv]at p4;have hbb:=hF2 b (by simp);obtain⟨F',p5,p6⟩:=hback w' S' arr cs Z3 B2 hS rN (fun c hc=>hF2 c (by simp[hc])) (hbb.trans hb) rfl (fun _ _=>rfl) c1 (c2.of_block hbb) p4;grind
end Go.Fw
end
section
namespace Go.Fw
def OR(E:Env)(w:World)(vw:List Bx):Option XV→Option Value→Prop
 |none,none=>True
 |some x,some v=>XR E w vw x v
 |_,_=>False
section
variable{Y:Type} {P:Program} {T:Jm} (hT:En P T) {E:Env} {w:World} {vw:List Bx}
theorem run_sliceBound{κ:IntKind}{i:Int}{y:Nat}{code:BoundsCode}(h0:0≤i)(h1:i≤(y:Int)):(Instr.sliceBound (.int κ i) y code).run P w= .ok i.toNat w:=by
 simp[Instr.sliceBound,asIntOf,h0,h1]
theorem Tn{len cap:Nat}(hc:len≤cap){lo hi:Option XV}{k:Nat→Nat→Option Y}{y:Y}(e:OQ len lo hi k=some y){lv hv:Option Value}
  (hl:OR E w vw lo lv) (hh:OR E w vw hi hv) (b:Bool):∃l h,k l h=some y∧l≤h∧h≤len∧(Instr.sliceBounds b len cap lv hv none).run P w= .ok (l,h,cap) w:=by
 unfold OQ at e;dsimp only at e;split at e
 case h_2=>cases e
 rename_i l h el eh;split at e
 case isFalse=>cases e
 rename_i hb;obtain⟨b1,b2,b3⟩:=hb;refine⟨l.toNat,h.toNat,e,by omega,by omega,?_⟩;cases hi with
 |none=>cases hv with
  |some _=>exact hh.elim
  |none=>
   simp only[ALL]at eh;subst eh;cases lo with
   |none=>cases lv with
    |some _=>exact hl.elim
    |none=>
     simp only[ALL]at el;subst el;rfl
   |some x=>cases lv with
    |none=>exact hl.elim
    |some v=>
     obtain⟨κ,rfl⟩:=Io (E:=E) (w:=w) (vw:=vw) el hl;simp[Instr.sliceBounds,run_sliceBound (P:=P) (w:=w) (κ:=κ) (i:=l) (y:=len) b1 (by omega)]
 |some x=>cases hv with
  |none=>exact hh.elim
  |some v=>
   obtain⟨κ,rfl⟩:=Io (E:=E) (w:=w) (vw:=vw) eh hh;have e1:=fun code=>run_sliceBound (P:=P) (w:=w) (κ:=κ) (i:=h) (y:=cap) (code:=code) (by omega) (by omega)
   cases lo with
   |none=>cases lv with
    |some _=>exact hl.elim
    |none=>
     simp only[ALL]at el;subst el;simp[Instr.sliceBounds,e1]
   |some x=>cases lv with
    |none=>exact hl.elim
    |some v=>
     obtain⟨κ',rfl⟩:=Io (E:=E) (w:=w) (vw:=vw) el hl;have e2:=fun code=>run_sliceBound (P:=P) (w:=w) (κ:=κ') (i:=l) (y:=h.toNat) (code:=code) b1 (by omega)
     simp[Instr.sliceBounds,e1,e2]
theorem qg(s:AA7)(l h:Nat):(⟨s.toArray⟩:ByteArray).extract l h=⟨((s.drop l).take (h-l)).toArray⟩:=by
 apply ByteArray.ext;simp[List.extract_eq_take_drop]
include hT
theorem iO{σ:St}{Fs:List AAs}(hB:NV E w σ.bx σ.bx Fs)(st:∀c,E.S c→E.T c){t:Nat}{x:XV}{lo hi:Option XV}{k:K Y}{y:Y}(e:kO T t σ x lo hi k=some y)
  {v:Value} {lv hv:Option Value} (hx:XR E w σ.bx x v) (hl:OR E w σ.bx lo lv) (hh:OR E w σ.bx hi hv):
  ∃z val,k z σ=some y∧(Instr.sliceAt t v lv hv none).run P w= .ok val w∧XR E w σ.bx z val:=by
 unfold kO at e;split at e
 ·rename_i s
  split at e
  case isFalse=>cases e
  rename_i qE;have hu:=XS hT qE;have X8:=Ww (E:=E) (w:=w) (vw:=σ.bx) hx;subst X8;obtain⟨l,h,ek,h1,h2,hr⟩:=Tn (P:=P) (cap:=s.length) (APM _) e hl hh false;refine⟨_,.string ⟨((s.drop l).take (h-l)).toArray⟩,ek,?_,VR.str (E:=E) (vw:=σ.bx) _⟩;have hs:(⟨s.toArray⟩:ByteArray).size=s.length:=by rfl
  simp[Instr.sliceAt,BR hu,Instr.slice,hs,hr,qg]
 ·rename_i s r rows
  split at e
  case isFalse=>cases e
  rename_i Uj;obtain⟨el,ti,hu,Uy,hs,_⟩:=Ka hT Uj;have PQ:=En.sizeOf hT Uy w
  change VR E w σ.bx (.sl s r rows) v at hx
  have hx':=hx;simp only[VR,Rd]at hx';obtain⟨a,cap,X8,hle,_⟩:=hx';simp only[APx,AQc]at X8;subst X8;obtain⟨l,h,ek,h1,h2,hr⟩:=Tn (P:=P) hle e hl hh true;refine⟨_,VJ r.n l (h-l) a cap,ek,?_,?_⟩
  ·simp[Instr.sliceAt,BR hu,Instr.slice,hr,PQ,hs,VJ]
  grind[XR,VR,xh]
 ·rename_i b p
  split at e
  case h_2=>cases e
  rename_i q hq;split at e
  case isFalse=>cases e
  rename_i Uj;obtain⟨el,ti,hu,Uy,hs,_⟩:=Ka hT Uj;have PQ:=En.sizeOf hT Uy w
  change VR E w σ.bx (.ref b p) v at hx
  obtain⟨a,cap,rfl,hle,_⟩:=xP hB st hx hq;obtain⟨l,h,ek,h1,h2,hr⟩:=Tn (P:=P) hle e hl hh true;refine⟨_,VJ q.1.n l (h-l) a cap,ek,?_,?_⟩
  ·simp[Instr.sliceAt,BR hu,Instr.slice,hr,PQ,hs,VJ]
  ·simp only[NU]at hq
   obtain⟨_,hx⟩:=hx;refine⟨by rfl,?_⟩;grind
 simp_all
omit hT in
theorem aa{f:Nat→Option AV}:∀{n j:Nat} {l:List AV},eC f j n=some l→l.length=n∧ ∀(i:Nat) x,l[i]? =some x→f (j+i)=some x
 |0,j,l,e=>by simp only[eC,ALL]at e;subst e;simp
 |n+1,j,l,e=>by
  simp only[eC,ALe,ALN]at e;obtain⟨x,hx,l',hl,rfl⟩:=e;obtain⟨h1,h2⟩:=aa hl;refine⟨by simp[h1],fun i z hz=> ?_⟩;cases i with
  |zero=>simp at hz;subst hz;exact hx
  |succ i=>
   have:=h2 i z (by simpa using hz)
   rwa [show j+1+i=j+(i+1)by omega]at this
omit hT in
theorem WZ{B:Nat→Prop}{t:Ty}{x:t.D}{v:Value}(h:Rd w B t [v] x)(hs:t.scalar=true):VR E w vw (.v t x) v:=by
 refine⟨hs,?_⟩;cases t<;>first
  |(simpa only[Rd]using h)
  |(simp[Ty.scalar]at hs)
omit hT in
theorem AAm{s:Bool}{t:Ty}{x:t.D}{v:Value}(h:Rd w (if s then E.S else E.T) t [v] x):VR E w vw (wj s ⟨t,x⟩) v:=by
 cases t with
 |sl r=>simp only[wj,VR];exact h
 |int k=>exact WZ h rfl
 |bool=>exact WZ h rfl
 |str=>exact WZ h rfl
 |unit=>trivial
 |cons c r=>trivial
omit hT in
theorem lC{s:ky}:∀{p:List ky} {r:Ty} {rows:List r.D} {q:Ty} {ys:List q.D} {t:Ty} {x:List t.D},C_ r rows p→G3 r rows p=some ⟨q,ys⟩→s.i<ys.length→s.sz=q.n→
  BK q s.j (rowAt q ys s.i)=some ⟨.sl t,x⟩→C_ r rows (p++[s])∧G3 r rows (p++[s])=some ⟨t,x⟩
 |[],r,rows,q,ys,t,x,_,hg,hi,hs,hc=>by
  simp only[G3,ALL,ANo]at hg;obtain⟨rfl,e⟩:=hg;obtain rfl:=AQJ e;refine⟨?_,?_⟩
  ·simp only[APq,C_,hc]
   exact⟨hi,hs,trivial⟩
  ·simp only[APq,G3,hc]
 |s'::p,r,rows,q,ys,t,x,hp,hg,hi,hs,hc=>by
  simp only[C_]at hp;obtain⟨h1,h2,hp⟩:=hp;simp only[G3]at hg;split at hg
  ·rename_i q' x' gY
   rw[gY]at hp;obtain⟨a,b⟩:=lC hp hg hi hs hc;refine⟨?_,?_⟩
   ·simp only[AQq,C_,gY]
    exact⟨h1,h2,a⟩
   ·simp only[AQq,G3,gY]
    exact b
  ·cases hg
omit hT in
theorem pz{s:ky}:∀{p:List ky} {h:Value} {b o len cap:Nat} {v:Value},I2 w h p=some (.slice (some ⟨b,o,none⟩) len cap)→w.cell? ⟨b,o+s.i*s.sz+s.j,none⟩=some v→
  I2 w h (p++[s])=some v
 |[],h,b,o,len,cap,v,e,hc=>by
  rw[C4]at e;cases e;simp[I2,hc,C4]
 |s'::p,h,b,o,len,cap,v,e,hc=>by
  cases h with
  |slice a l c=>
   cases a with
   |none=>simp[I2]at e
   |some a=>
    simp only[I2]at e;split at e
    ·rename_i h' hh
     simp only[AQq,I2,hh];exact pz e hc
    ·cases e
  |_=>simp[I2]at e
omit hT in
theorem LL{bx:List Bx}{Fs:List AAs}(hB:NV E w bx bx Fs)(st:∀c,E.S c→E.T c){x z:AV}{i:Nat}(e:Jh bx x i=some z){v:Value}(hx:VR E w bx x v):
  ∃b o u,v= .pointer (some ⟨b,o,none⟩)∧w.cell? ⟨b,o+i,none⟩=some u∧VR E w bx z u:=by
 cases x with
 |IX b j=>
  simp only[Jh]at e;split at e
  ·rename_i cs hb
   obtain⟨F,⟨_,arr,ty,fr,ha,hu,hv⟩,_⟩:=hB.get hb;obtain⟨u,h1,h2⟩:=CR.get hv e;refine⟨_,_,u,hx.2,?_,h2⟩;simp only[World.cell?,ha,AQh,AL6,APB];simpa using h1
  ·cases e
 |Je b p r sz j=>
  simp only[Jh]at e;split at e
  ·rename_i d q rows hb
   split at e
   case isFalse=>cases e
   rename_i hd;simp only[ALe]at e;obtain⟨⟨q',tw⟩,hg,e⟩:=e;split at e
   case isFalse=>cases e
   rename_i PQ;simp only[ALN]at e;obtain⟨⟨t,y⟩,hc,rfl⟩:=e;simp only[VR,hb]at hx;obtain⟨_,hp,q1,ys,bb,o,len,cap,g1,g2,g3,rfl⟩:=hx;rw[hg]at g1;simp only[ALL,ANo]at g1;obtain⟨rfl,g1⟩:=g1;obtain rfl:=AQJ g1;dsimp only at PQ hc;obtain⟨F,⟨hd1,ho⟩,hF⟩:=hB.get hb;have Xu:=dh (FG.refl bx) hB st hb hp hg g3;have AcJ:=Xu;simp only[Rd]at Xu;obtain⟨a',cap',ee,hle,Xu⟩:=Xu;simp only[APx,Value.slice.injEq,AQc]at ee;obtain⟨rfl,rfl,rfl⟩:=ee;rcases Xu with Xu|⟨b1,o1,e7,_,Xu⟩
   ·omega
   ·cases e7
    obtain⟨cs,c1,c2,c3⟩:=Xu r _ (Qs g2);obtain⟨u,hu,hur⟩:=eU c3 hc;have Zy:=c2 _ _ hu;rw[←PQ]at Zy;refine⟨_,_,u,rfl,by rw[AQz];exact Zy,?_⟩;cases t with
    |sl t' =>
     simp only[ye];split
     ·rename_i hdd
      obtain⟨h',F1,F2,m1,m2,_,_⟩:=nU ho hp hg hd;rw[g3]at m1;cases m1;rw[show d-p.length=0+1 by omega]at m2;obtain⟨b2,o2,arr,ty,fr,cs2,G,R,e2,_,_,_,_,k2,k3,_,_⟩:=td m2 g2;cases e2;obtain⟨v2,A1,A2,z1,z2,_,_⟩:=eF k3 hc;have AB4:=k2 _ _ z1;rw[←PQ,Zy]at AB4;cases AB4;simp only[Ow]at z2;simp only[VR];exact z2.1
     ·simp only[VR,hb]
      have:=lC (s:=⟨r,sz,j+i⟩) hp hg g2 PQ hc;simp only[Rd]at hur;obtain⟨a2,cap2,e2,_⟩:=hur;simp only[APx,AQc]at e2;refine⟨by rw[e2];rfl,this.1,⟨_,this.2⟩,pz g3 Zy⟩
    |int k=>exact WZ hur rfl
    |bool=>exact WZ hur rfl
    |str=>exact WZ hur rfl
    |unit=>trivial
    |cons c r=>trivial
  ·cases e
 |PO s r y j=>
  simp only[Jh,ALN]at e;obtain⟨⟨t,y'⟩,hc,rfl⟩:=e;obtain⟨bb,o,cs,rfl,h2,h3,h4,h5⟩:=hx;obtain⟨u,hu,hur⟩:=eU h5 hc;refine⟨_,_,u,rfl,by rw[AQz];exact h4 _ _ hu,AAm hur⟩
 |_=>simp[Jh]at e
omit hT in
theorem dB{bx:List Bx}{Fs:List AAs}(hB:NV E w bx bx Fs)(st:∀c,E.S c→E.T c){x:AV}{v:Value}(hx:VR E w bx x v){b o:Nat}(hv:v= .pointer (some ⟨b,o,none⟩)):
  ∀{l:List AV} {j:Nat},(∀(i:Nat) z,l[i]? =some z→Jh bx x (j+i)=some z)→ ∃cs:List Value,cs.length=l.length∧BT w b (o+j) cs∧i7 E w bx l cs
 |[],_,_=>⟨[],rfl,fun _ _ h=>by simp at h,trivial⟩
 |z::l,j,h=>by
  obtain⟨b',o',u,e1,e2,e3⟩:=LL hB st (h 0 z rfl) hx;subst hv;simp only[Value.pointer.injEq,ALL,Addr.mk.injEq,AQc]at e1;obtain⟨rfl,rfl⟩:=e1;obtain⟨cs,c1,c2,c3⟩:=dB hB st hx rfl (l:=l) (j:=j+1) (fun i y hy=>by
   have:=h (i+1) y (by simpa using hy)
   rwa [show j+1+i=j+(i+1)by omega])
  refine⟨u::cs,by simp[c1],fun i y hy=> ?_,e3,c3⟩;cases i with
  |zero=>simp at hy;subst hy;exact e2
  |succ i=>
   have:=c2 i y (by simpa using hy)
   rwa [show o+(j+1)+i=o+j+(i+1)by omega]at this
theorem vY{σ:St}{Fs:List AAs}(hB:NV E w σ.bx σ.bx Fs)(st:∀c,E.S c→E.T c){t:Nat}{x z:XV}(e:ln T t σ x=some z){v:Value}(hx:XR E w σ.bx x v):
  ∃u,(Instr.loadAt t v).run P w= .ok u w∧XR E w σ.bx z u:=by
 unfold ln at e;split at e
 case h_2=>cases e
 rename_i x ti Uy;split at e
 case isTrue=>cases e
 rename_i PQ;have jT:=En.isAgg hT Uy w;split at e
 ·rename_i ha
  rw[ha]at jT;simp only[ALN]at e;obtain⟨l,hl,rfl⟩:=e;obtain⟨h1,h2⟩:=aa hl;have h0:0<l.length:=by omega
  obtain⟨b,o,u,hv,_,_⟩:=LL hB st (h2 0 _ (ALD h0)) hx;obtain⟨cs,c1,c2,c3⟩:=dB hB st hx hv (l:=l) (j:=0) (fun i y hy=>by simp_all);subst hv;have gz:=(hT t ti Uy).und;cases hd:ti.desc with
  |st fs=>
   rw[hd]at gz;obtain⟨fields,hu,_⟩:=gz;refine⟨.agg cs.toArray,run_loadAt_mid w b o t cs _ (by grind[BT,World.rangeAt]) hu rfl ?_,cs.toArray,rfl,by omega⟩;grind[En.size]
  |_=>grind[TD.agg]
 ·rename_i ha
  simp only[APR]at ha;rw[ha]at jT;simp only[ALN]at e;obtain⟨y,hy,rfl⟩:=e;obtain⟨b,o,u,hv,hc,hr⟩:=LL hB st hy hx;subst hv;refine⟨u,?_,hr⟩;simp only[AQ2]at hc;simp[Instr.loadAt,Instr.sureAddr,loadVar,jT,hc]
end
end Go.Fw
end
section
namespace Go.Fw
theorem p9{w:World}{S:Nat→Prop}{d:Nat}{q:Ty}:Ow w S d (.sl q) [.slice none 0 0] [] []:=by
 cases d with
 |zero=>simp only[Ow,Rd];simp_all
 |succ d=>simp only[Ow];simp_all
theorem ABQ{w:World}{S:Nat→Prop}{d:Nat}{r:Ty}{a:Option Addr}{len cap:Nat}{ys:List r.D}{F:AAs}(h:Ow w S (d+1) (.sl r) [.slice a len cap] ys F){off n:Nat}(hn:off+n≤ys.length):
  ∃F1 F2,F.Perm (F1++F2)∧Ow w S (d+1) (.sl r) [VJ r.n off n a cap] ((ys.drop off).take n) F1:=by
 simp only[Ow]at h⊢;obtain⟨a',cap',e,hc,h⟩:=h;simp only[APx,Value.slice.injEq,AQc]at e;obtain⟨rfl,rfl,rfl⟩:=e;have hl:((ys.drop off).take n).length=n:=by grind
 by_cases h0:cap=off
 ·subst h0
  refine⟨[],F,by simp,a,0,by simp[VJ,hl],by omega,.inl ⟨rfl,rfl⟩⟩
 ·rcases h with⟨h,rfl⟩|⟨b,o,arr,ty,fr,Fs,rfl,hb,PQ,hu,rfl,hFl,hr⟩
  ·omega
  ·have p:Fs.flatten.Perm (((Fs.drop off).take n).flatten++((Fs.take off).flatten++(Fs.drop (off+n)).flatten)):=by
    grind[List.drop_drop,List.take_append_drop,List.flatten_append,List.append_assoc,List.Perm.append_right,List.perm_append_comm]
   refine⟨b::((Fs.drop off).take n).flatten,(Fs.take off).flatten++(Fs.drop (off+n)).flatten,List.Perm.cons b p,some ⟨b,o+off*r.n,none⟩,cap-off,?_,by omega,.inr ⟨b,o+off*r.n,arr,ty,fr,_,rfl,hb,?_,hu,rfl,?_,?_⟩⟩
   ·grind[VJ,Addr.add_eq]
   ·have:off*r.n+(cap-off)*r.n=cap*r.n:=by rw[←AQm];grind
    omega
   all_goals grind
theorem Le.keep{E E':Env}(h:Le E E'){w:World}{vw:List Bx}(st:∀c,E.S c→E.T c):Sz E w vw E' w vw:=
 ⟨APM _,fun b _=>by rw[h.Hz],h.T,h.S,st,fun _ _=>rfl,fun b d r rows _ e=>⟨d,rows,e,fun p hp q ys hg=>⟨hp,⟨ys,hg,rfl⟩,fun h' hh=>by rw[h.Hy];omega⟩⟩⟩
theorem C7.share{E:Env}{w:World}{vw bx:List Bx}{F W G:AAs}(h:C7 E w vw bx (F++W++G)):
  let E':Env:={ E with S:=fun c=>E.S c∨c∈W,T:=fun c=>E.T c∨c∈W }
  Le E E'∧C7 E' w vw bx (F++G):=by
 intro E';have st:=h.st;have hle:Le E E':=⟨rfl,rfl,fun c hc=> .inl hc,fun c hc=> .inl hc,fun c hc=>hc.elim .inl fun h' => .inr (.inr h'),fun c hc=>hc.elim .inl fun h' => .inr (h.ACO c (by simp[h']))⟩;refine⟨hle,?_⟩;obtain⟨Fs,⟨h1,h2⟩,h3⟩:=h;refine⟨Fs,⟨h1,fun k B F' hk hF=> ?_⟩,?_⟩
 ·have:=h2 k B F' hk hF
  cases B with
  |mem cs=>
   obtain⟨rfl,arr,ty,fr,a1,a2,a3⟩:=this;exact⟨rfl,arr,ty,fr,a1,a2,a3.imp fun _ _ hv=>GD (hle.keep st) hv⟩
  |sl d r rows=>exact⟨this.1,EO hle.S (fun _ _=>rfl) (fun _ _=>rfl) this.2⟩
  |dead=>exact this
 ·have h4:Sep E w (W++(Fs.flatten++(F++G))):=h3.perm (by
   grind)
  refine⟨(AOA.1 h4.nodup).2.1,fun c hc ht=> ?_,fun c hc=>h4.lt c (by simp_all),fun c hc=>hc.imp (st c) id,fun c hc=>hc.elim (h4.cX c) fun h' =>h4.lt c (by simp[h'])⟩;rcases ht with ht|ht
  ·exact h4.free c (AOO.2 (.inr hc)) ht
  ·exact(AOA.1 h4.nodup).2.2 c ht c hc rfl
structure G6 (E:Env) (w:World) (vw bx:List Bx) (G:AAs) (E':Env) (Qd:List Bx) (F:AAs):Prop where
 le:Le E E'
 len:Qd.length=bx.length
 within:∀(b:Nat) (B:Bx),Qd[b]? =some B→B= .dead∨bx[b]? =some B
 boxes:C7 E' w vw Qd (F++G)
theorem G6.refl{E:Env}{w:World}{vw bx:List Bx}{G:AAs}(h:C7 E w vw bx G):G6 E w vw bx G E bx []:=
 ⟨Le.refl E,rfl,fun _ _ h=> .inr h,h⟩
theorem FG.om{E E':Env}{w:World}{vw bx Qd:List Bx}{G F:AAs}(h:FG bx vw)(k:G6 E w vw bx G E' Qd F):FG Qd vw:=fun b B e=>
 (k.within b B e).elim .inl (h b B)
theorem bG{E:Env}{w:World}{vw bx:List Bx}{G:AAs}(h:C7 E w vw bx G)(hw:FG bx vw){d:Nat}(hd:1≤d){t:Ty}{x:AV}{v:Value}(hv:VR E w vw x v){y:t.D}{Qd:List Bx}{d':Nat}
  (e:di d t x bx=some (y,Qd,d')):1≤d'∧d'≤d∧ ∃E' F,G6 E w vw bx G E' Qd F∧Ow w E'.S (d'-1) t [v] y F:=by
 unfold di at e;split at e
 ·rename_i u z
  simp only[ALN,AQD]at e;obtain⟨z',e1,rfl,rfl,rfl⟩:=e;obtain⟨e2,e3⟩:=ID e1;subst e2;subst e3;refine⟨hd,APM _,E,[],G6.refl h,?_⟩;obtain⟨hs,hr⟩:=hv;cases u<;>simp_all[Ty.scalar,Ow,Rd]
 ·split at e
  ·simp only[ALL,AQD]at e
   obtain⟨rfl,rfl,rfl⟩:=e;simp only[VR]at hv;subst hv;exact⟨hd,APM _,E,[],G6.refl h,p9⟩
  simp_all
 ·rename_i r z
  split at e
  ·rename_i q
   simp only[ALN,AQD]at e;obtain⟨z',e1,rfl,rfl,rfl⟩:=e;obtain⟨e2,e3⟩:=ID e1;subst e2;subst e3;refine⟨APM _,hd,E,[],G6.refl h,?_⟩;simp only[VR]at hv;simp only[AVE,Ow];simp_all
  simp_all
 ·rename_i b
  split at e
  case h_2=>cases e
  rename_i q;split at e
  case h_2=>cases e
  rename_i db r z hb;simp only[ALN,AQD]at e;obtain⟨z',e1,rfl,rfl,rfl⟩:=e;obtain⟨e2,e3⟩:=ID e1;subst e2;subst e3;obtain⟨F0,⟨hd1,ho⟩,hB⟩:=h.take hb;have hvv:v=E.Hy b:=by
   grind[VR,YW,C4]
  subst hvv;obtain⟨F1,W,hp,wB⟩:=KE (d:=min d (db+1)-1) (by omega) ho;have Tb:=hB.perm (ARP G hp);obtain⟨hle,Xx⟩:=Tb.share;refine⟨by omega,Nat.min_le_left _ _,_,F1,⟨hle,by simp,fun k B hk=> ?_,Xx⟩,wB⟩;grind
 ·rename_i b off n
  split at e
  case h_2=>cases e
  rename_i q;split at e
  case h_2=>cases e
  rename_i db r z hb;simp only[ALN,AQD]at e;obtain⟨z',e1,rfl,rfl,rfl⟩:=e;obtain⟨e2,e3⟩:=ID e1;subst e2;subst e3;obtain⟨F0,⟨hd1,ho⟩,hB⟩:=h.take hb;simp only[VR,YW hw hb,C4]at hv;obtain⟨_,_,q',ys,a,len,cap,hg,hn,hh,rfl⟩:=hv;simp only[G3,ALL,ANo]at hg;obtain⟨rfl,hg⟩:=hg;obtain rfl:=AQJ hg;simp only[ALL]at hh;rw[hh]at ho;obtain⟨db,rfl⟩:∃m,db=m+1:=⟨db-1,by omega⟩;obtain⟨A1,A2,hp0,ho0⟩:=ABQ ho hn;obtain⟨F1,W,hp,wB⟩:=KE (d:=min d (db+1+1)-1) (by omega) ho0;have hB1:C7 E w vw (bx.set b .dead) (A1++G):=by
   refine C7.drop (G':=A2) (hB.perm ?_);grind
  have Tb:=hB1.perm (ARP G hp);obtain⟨hle,Xx⟩:=Tb.share;refine⟨by omega,Nat.min_le_left _ _,_,F1,⟨hle,by simp,fun k B hk=> ?_,Xx⟩,wB⟩;grind
 simp_all
theorem Y_{w:World}{vw:List Bx}:∀{r:Ty} {E:Env} {bx:List Bx} {G:AAs} {d:Nat} {l:List AV} {vs:List Value} {y:r.D} {Qd:List Bx} {d':Nat},C7 E w vw bx G→FG bx vw→1≤d→
  i7 E w vw l vs→cellsIn d r l bx=some (y,Qd,d')→1≤d'∧d'≤d∧ ∃E' F,G6 E w vw bx G E' Qd F∧Ow w E'.S (d'-1) r vs y F
 | .unit,E,bx,G,d,[],[],y,Qd,d',h,hw,hd,_,e=>by
  simp only[cellsIn,ALL,AQD]at e;obtain⟨_,rfl,rfl⟩:=e;exact⟨hd,APM _,E,[],G6.refl h,by simp only[Ow];simp_all⟩
 | .cons c r,E,bx,G,d,x::l,v::vs,y,Qd,d',h,hw,hd,hv,e=>by
  simp only[cellsIn,ALe,ALN,AQD]at e;obtain⟨⟨y1,jV,d1⟩,e1,⟨y2,aQ,d2⟩,e2,rfl,rfl,rfl⟩:=e;dsimp only at e2⊢;obtain⟨a1,a2,E1,F1,k1,o1⟩:=bG h hw hd hv.1 e1;have vj:=k1.le.keep (w:=w) (vw:=vw) h.st;obtain⟨b1,b2,E2,F2,k2,o2⟩:=Y_ (G:=F1++G) k1.boxes (hw.om k1) a1 (hv.2.imp fun _ _ h=>GD vj h) e2;obtain⟨A,W,hp,o1'⟩:=KE (d:=d'-1) (by omega) o1;have hB:=k2.boxes.perm (G':=(F2++A)++W++G) (by
   grind)
  obtain⟨hle,Xx⟩:=hB.share;refine⟨b1,AQL b2 a2,_,A++F2,⟨(k1.le.trans k2.le).trans hle,k2.len.trans k1.len,fun b B hb=>(k2.within b B hb).elim .inl (k1.within b B),Xx.perm (ARP _ List.perm_append_comm)⟩,?_⟩;simp only[Ow];refine⟨v,vs,A,F2,rfl,rfl,?_,?_⟩
  ·refine EO (S:=fun b=>E1.S b∨b∈W) ?_ (fun _ _=>rfl) (fun _ _=>rfl) o1'
   intro c hc;exact hc.elim (fun h=> .inl (k2.le.S c h)) .inr
  ·refine EO (S:=E2.S) ?_ (fun _ _=>rfl) (fun _ _=>rfl) o2
   simp_all
 | .unit,_,_,_,_,_::_,_,_,_,_,_,_,_,_,e=>by simp[cellsIn]at e
 | .unit,_,_,_,_,[],_::_,_,_,_,_,_,_,hv,_=>hv.elim
 | .cons _ _,_,_,_,_,[],_,_,_,_,_,_,_,_,e=>by simp[cellsIn]at e
 | .cons _ _,_,_,_,_,_::_,[],_,_,_,_,_,_,hv,_=>hv.elim
 | .int _,_,_,_,_,_,_,_,_,_,_,_,_,_,e=>by simp[cellsIn]at e
 | .bool,_,_,_,_,_,_,_,_,_,_,_,_,_,e=>by simp[cellsIn]at e
 | .str,_,_,_,_,_,_,_,_,_,_,_,_,_,e=>by simp[cellsIn]at e
 | .sl _,_,_,_,_,_,_,_,_,_,_,_,_,_,e=>by simp[cellsIn]at e
theorem sX{E:Env}{w:World}{vw:List Bx}{x:AV}{v:Value}(h:VR E w vw x v)(hk:x.known=true):v.oneCell' =true∧v.cells= #[v]:=by
 have aux:∀{v:Value},isSlice v=true→v.oneCell' =true∧v.cells= #[v]:=by intro v h;cases v<;>simp_all[isSlice,Value.oneCell',Value.cells]
 have AXT:∀{v:Value},bn v=true→v.oneCell' =true∧v.cells= #[v]:=by intro v h;cases v<;>simp_all[bn,Value.oneCell',Value.cells]
 cases x with
 |v t y=>
  obtain⟨hs,hr⟩:=h;cases t<;>simp[Ty.scalar]at hs<;>simp only[Rd,APx,AQc]at hr<;>subst hr<;>exact⟨rfl,rfl⟩
 |sl s r y=>
  simp only[VR,Rd]at h;obtain⟨a,cap,h,_⟩:=h;simp only[APx,AQc]at h;subst h;exact⟨rfl,rfl⟩
 |nil=>simp only[VR]at h;subst h;exact⟨rfl,rfl⟩
 |ref b p=>exact aux h.1
 |win b p off n=>exact aux h.1
 |IX b j=>rw[h.2];exact⟨rfl,rfl⟩
 |Je b p i sz j=>exact AXT h.1
 |PO s r y j=>obtain⟨bb,o,cs,rfl,_⟩:=h;exact⟨rfl,rfl⟩
 |fn f Kg=>rw[h.2];exact⟨rfl,rfl⟩
 |qG f rows=>obtain⟨ps,rfl,_⟩:=h;exact⟨rfl,rfl⟩
 |xB=>simp only[VR]at h;subst h;exact⟨rfl,rfl⟩
 |undef=>simp[AV.known]at hk
theorem yG{E:Env}{w:World}{vw:List Bx}:∀{l:List AV} {vs:List Value},i7 E w vw l vs→l.all AV.known=true→ ∀v∈vs,v.oneCell' =true
 |[],[],_,_=>by simp
 |x::l,v::vs,h,hk=>by
  simp only[AQr,ALo]at hk;intro u hu;rcases APr.1 hu with rfl|hu
  ·exact(sX h.1 hk.1).1
  ·exact yG h.2 hk.2 u hu
theorem n_{E:Env}{w:World}{vw:List Bx}{x:XV}{v:Value}(h:XR E w vw x v)(hk:x.cells.all AV.known=true)(hn:x.cells≠[]):i7 E w vw x.cells v.cells.toList∧ ∀u∈v.cells.toList,u.oneCell' =true:=by
 cases x with
 |c x=>
  have h':VR E w vw x v:=h;obtain⟨h1,h2⟩:=sX h' (by grind[XV.cells]);rw[h2];exact⟨⟨h',trivial⟩,by simp_all⟩
 |agg l=>
  obtain⟨vs,rfl,Vt⟩:=h;exact⟨Vt,yG Vt hk⟩
 |NA l=>simp[XV.cells]at hn
theorem ug{w:World}{vw:List Bx}{r:Ty}{E:Env}{bx:List Bx}{G:AAs}{d:Nat}{x:XV}{v:Value}{y:r.D}{Qd:List Bx}{d':Nat}(h:C7 E w vw bx G)(hw:FG bx vw)(hd:1≤d)
  (hv:XR E w vw x v) (e:ADP d r x bx=some (y,Qd,d')):1≤d'∧d'≤d∧ ∃E' F,G6 E w vw bx G E' Qd F∧Ow w E'.S (d'-1) r v.cells.toList y F:=by
 unfold ADP at e;split at e
 ·rename_i l
  obtain⟨vs,rfl,Vt⟩:=hv;exact Y_ h hw hd Vt e
 ·rename_i x
  have X8:VR E w vw x v:=hv;have hk:x.known=true:=by grind[AV.known,di]
  rw[(sX X8 hk).2];exact bG h hw hd X8 e
 simp_all
end Go.Fw
end
section
namespace Go.Fw
def Env.bC(E:Env)(n:Nat)(h:Value):Env:={ E with Hy:=fun k=>if k=n then h else E.Hy k }
def Env.eR(E:Env)(n b:Nat):Env:={ E with Hz:=fun k=>if k=n then b else E.Hz k }
theorem gW{E E1 E':Env}{w w':World}{vw jV Qd:List Bx}{F:AAs}(k:G6 E w vw vw [] E1 jV F)(st:∀c,E.S c→E.T c)(hlen:vw.length≤Qd.length)
  (tv:∀b B,b<vw.length→Qd[b]? =some B→jV[b]? =some B) (ACg:∀b,b<vw.length→E'.Hz b=E1.Hz b) (mG:∀b,b<vw.length→E'.Hy b=E1.Hy b) (hT:E'.T=E1.T) (hS:E'.S=E1.S)
  (hw:∀c,c<w.heap.size→c∉F→w'.heap[c]? =w.heap[c]?):Sz E w vw E' w' Qd:=by
 have hB:=k.boxes;obtain⟨Fs,⟨h1,h2⟩,h3⟩:=hB;simp only[ANI]at h3;have wH:∀c,E1.T c→w'.heap[c]? =w.heap[c]?:=fun c hc=>hw c (h3.cX c hc) fun hf=>h3.free c (by simp[hf]) hc
 refine⟨hlen,fun b hb=>by rw[ACg b hb,k.le.Hz],fun c hc=>by rw[hT];exact k.le.T c hc,fun c hc=>by rw[hS];exact k.le.S c hc,st,fun c hc=>wH c (k.le.T c hc),fun b d r rows hb e=> ?_⟩;have e1:=tv b _ hb e;rcases k.within b _ e1 with e2|e2
 ·cases e2
 ·refine⟨d,rows,e2,fun p hp q ys hg=>⟨hp,⟨ys,hg,rfl⟩,fun h' hh=> ?_⟩⟩
  have hF:Fs[b]? =some (Fs[b]'(by grind)):=ALD _;obtain⟨hd,ho⟩:=h2 b _ _ e1 hF;rw[mG b hb];rw[←k.le.Hy]at hh;refine sx ho (fun c hc=>wH c (h3.st c hc)) (fun c hc=> ?_) hp hg hh;have TQ:c∈Fs.flatten:=AQP.2 ⟨_,AO9 hF,hc⟩;exact hw c (h3.lt c (by simp[TQ])) fun hf=>(AOA.1 h3.nodup).2.2 c TQ c hf rfl
structure Grown (w w':World):Prop where
 os:w'.os=w.os
 tape:w'.tape=w.tape
 output:w'.output=w.output
 size:w.heap.size≤w'.heap.size
theorem Tg{E E1:Env}{σ:St}{a:Act}{w w':World}{jV:List Bx}{F F':AAs}(h:Rel E σ a w)(k:G6 E w σ.bx σ.bx [] E1 jV F){v:Value}{d:Nat}{r:Ty}{rows:List r.D}(hd:1≤d)
  (ho:Ow w' E1.S d (.sl r) [v] rows F') (hF':∀c∈F',c∈F∨w.heap.size≤c) (nd:F'.Nodup) (Hw:∀c∈F',c<w'.heap.size) (hw:∀c,c<w.heap.size→c∉F→w'.heap[c]? =w.heap[c]?) (g:Grown w w'):
  let E':=E1.bC jV.length v
  Rel E' { σ with bx:=jV++[.sl d r rows] } a w'∧RP [] E σ.bx w E' (jV++[.sl d r rows]) w'∧XR E' w' (jV++[.sl d r rows]) (.c (.ref jV.length [])) v:=by
 intro E';have st:=h.bx.st;have hn:=k.len;have keep:Sz E w σ.bx E' w' (jV++[.sl d r rows]):=gW k st (by simp[hn]) (fun b B hb e=>by
   grind) (fun b _=>rfl) (fun b hb=>by grind[Env.bC]) rfl rfl hw
 have vj:Sz E1 w σ.bx E' w' (jV++[.sl d r rows]):=by
  have k':G6 E1 w σ.bx σ.bx [] E1 jV F:=⟨Le.refl _,k.len,k.within,k.boxes⟩;exact gW k' k.boxes.st (by simp[hn]) (fun b B hb e=>by
   grind) (fun b _=>rfl) (fun b hb=>by grind[Env.bC]) rfl rfl hw
 obtain⟨Fs,⟨h1,h2⟩,h3⟩:=k.boxes;simp only[ANI]at h3;have wH:∀c,E1.T c→w'.heap[c]? =w.heap[c]?:=fun c hc=>hw c (h3.cX c hc) fun hf=>h3.free c (by simp[hf]) hc
 have hF0:∀c∈Fs.flatten,w'.heap[c]? =w.heap[c]?:=fun c hc=>hw c (h3.lt c (by simp[hc])) fun hf=>(AOA.1 h3.nodup).2.2 c hc c hf rfl
 refine⟨⟨h.Ns,h.tm.imp fun _ _ hx=>O_ keep hx,?_⟩,?_,?_⟩
 ·refine⟨Fs++[F'],⟨by simp[h1],fun n B G hB hG=> ?_⟩,?_⟩
  ·by_cases vh:n<jV.length
   ·rw[AOh vh]at hB
    rw[AOh (by omega)]at hG;have:=h2 n B G hB hG;have hGw:∀c∈G,w'.heap[c]? =w.heap[c]?:=fun c hc=>hF0 c (AQP.2 ⟨G,AO9 hG,hc⟩)
    cases B with
    |mem cs=>
     obtain⟨rfl,arr,ty,fr,a1,a2,a3⟩:=this;exact⟨rfl,arr,ty,fr,(hGw (E1.Hz n) (by simp)).trans a1,a2,a3.imp fun _ _ hv=>GD vj hv⟩
    |sl d0 r0 Rx=>
     refine⟨this.1,?_⟩;have e0:E'.Hy n=E1.Hy n:=by grind[Env.bC]
     rw[e0];exact EO (fun _ hc=>hc) (fun c hc=>wH c (h3.st c hc)) hGw this.2
    |dead=>exact this
   ·have hnn:=(ALO.1 hB).1
    simp at hnn;obtain rfl:n=jV.length:=by omega
    rw[APH (by omega)]at hB hG;simp[h1]at hB hG;subst hB hG;refine⟨hd,?_⟩;grind[Env.bC]
  ·simp only[AQt,AQ1,ASC,ANI]
   have nd0:=AOA.1 h3.nodup;refine⟨AOA.2 ⟨nd0.1,nd,fun x hx y hy e=> ?_⟩,fun c hc ht=> ?_,fun c hc=> ?_,h3.st,fun c hc=>AQZ (h3.cX c hc) g.size⟩
   ·grind
   ·rcases AOO.1 hc with hc|hc
    ·exact h3.free c (by simp[hc]) ht
    ·rcases hF' c hc with h|h
     ·exact h3.free c (by simp[h]) ht
     ·have:=h3.cX c ht;omega
   ·rcases AOO.1 hc with hc|hc
    ·exact AQZ (h3.lt c (by simp[hc])) g.size
    simp_all
 ·refine⟨⟨k.le.T,k.le.S,k.le.Tof,k.le.yH,fun c hc=>wH c (k.le.T c hc),g.os,g.tape,g.output,g.size⟩,by simp[hn],fun b hb=>⟨by show E1.Hz b=_;rw[k.le.Hz],?_⟩,fun b hb=> ?_,fun n B B' _ hB Tb we=> ?_⟩
  ·have:E'.Hy b=E1.Hy b:=by grind[Env.bC]
   rw[this,k.le.Hy]
  ·have hbl:=(ALO.1 hb).1
   rw[AOh (by omega)];obtain⟨B,hB⟩:∃B,jV[b]? =some B:=⟨_,ALD (by omega)⟩;rcases k.within b B hB with e|e
   all_goals simp_all
  ·have vh:=(ALO.1 hB).1
   rw[AOh (by omega)]at Tb;rcases k.within n B' Tb with e|e
   ·simp_all
   rw[hB]at e;cases e;refine⟨VB.refl we,fun c hc=> ?_⟩;have hF:Fs[n]? =some (Fs[n]'(by omega)):=ALD _;have hR:=h2 n B _ Tb hF;have cR:wF E1 w n B c:=by
    cases B with
    |mem cs=>simp only[wF]at hc⊢;rw[k.le.Hz];omega
    |sl d r rows=>simp only[wF]at hc⊢;rw[k.le.Hy];omega
    |dead=>exact hc
   rcases eG hR cR with hs|hs
   ·exact wH c (h3.st c hs)
   grind[List.mem_flatten,List.mem_of_getElem?]
 ·have e0:E'.Hy jV.length=v:=by simp[E',Env.bC]
  refine⟨?_,?_⟩
  ·have:=XH ho
   simp only[Rd]at this;obtain⟨_,_,e,_⟩:=this;simp only[APx,AQc]at e;rw[e];rfl
  ·have:(jV++[Bx.sl d r rows])[jV.length]? =some (.sl d r rows):=by simp
   rw[this];exact⟨by simp[C_],⟨_,rfl⟩,by rw[e0,C4]⟩
theorem nN{E:Env}{σ:St}{a:Act}{w:World}(h:Rel E σ a w){cs:List AV}{arr:Array Value}(ty:TypeId)(hv:i7 E w σ.bx cs arr.toList):
  let E':=E.eR σ.bx.length w.heap.size
  let w':=w.alloc (.cells arr ty)
  Rel E' (σ.new (.mem cs)) a w'∧RP [] E σ.bx w E' (σ.new (.mem cs)).bx w'∧XR E' w' (σ.new (.mem cs)).bx (.c (.IX σ.bx.length 0)) (.pointer (some ⟨w.heap.size,0,none⟩)):=by
 intro E' w';have st:=h.bx.st;have hw:∀c,c<w.heap.size→c∉([]:AAs)→w'.heap[c]? =w.heap[c]?:=fun c hc _=>by
  show(w.heap.push (.cells arr ty))[c]? =_
  grind
 have hB0:=h.bx;have keep:Sz E w σ.bx E' w' (σ.bx++[.mem cs]):=gW (G6.refl hB0) st (by simp) (fun b B hb e=>by
   grind) (fun b hb=>by grind[Env.eR]) (fun b _=>rfl) rfl rfl hw
 obtain⟨Fs,⟨h1,h2⟩,h3⟩:=h.bx;simp only[ANI]at h3;have new:w'.heap[w.heap.size]? =some (.cells arr ty):=by
  show(w.heap.push (.cells arr ty))[w.heap.size]? =_
  simp
 refine⟨⟨h.Ns,h.tm.imp fun _ _ hx=>O_ keep hx,?_⟩,?_,?_⟩
 ·refine⟨Fs++[[w.heap.size]],⟨by simp[St.new,h1],fun n B G hB hG=> ?_⟩,?_⟩
  ·simp only[St.new]at hB
   by_cases vh:n<σ.bx.length
   ·rw[AOh vh]at hB
    rw[AOh (by omega)]at hG;have:=h2 n B G hB hG;have hGw:∀c∈G,w'.heap[c]? =w.heap[c]?:=fun c hc=>hw c (h3.lt c (by simp;grind)) (by simp)
    have eb:E'.Hz n=E.Hz n:=by grind[Env.eR]
    cases B with
    |mem cs0=>
     obtain⟨rfl,arr0,ty0,fr,a1,a2,a3⟩:=this;refine⟨by rw[eb],arr0,ty0,fr,?_,a2,a3.imp fun _ _ hv=>GD keep hv⟩;simp_all
    |sl d0 r0 Rx=>exact⟨this.1,EO (fun _ hc=>hc) (fun c hc=>hw c (h3.cX c (st c hc)) (by simp)) hGw this.2⟩
    |dead=>exact this
   ·have hnn:=(ALO.1 hB).1
    simp at hnn;obtain rfl:n=σ.bx.length:=by omega
    rw[APH (by omega)]at hB hG;simp[h1]at hB hG;subst hB hG;have eb:E'.Hz σ.bx.length=w.heap.size:=by simp[E',Env.eR]
    refine⟨by rw[eb],arr,ty,(0,0),by simp_all,fun i _ h=>by omega,hv.imp fun _ _ hv=>GD keep hv⟩
  ·simp only[AQt,AQ1,ASC,ANI]
   refine⟨AOA.2 ⟨h3.nodup,by simp,fun x hx y hy e=> ?_⟩,fun c hc ht=> ?_,fun c hc=> ?_,h3.st,fun c hc=> ?_⟩
   ·subst e
    simp at hy;have:=h3.lt x hx;omega
   ·rcases AOO.1 hc with hc|hc
    ·exact h3.free c hc ht
    ·simp at hc;have:=h3.cX c ht;omega
   ·rcases AOO.1 hc with hc|hc
    ·have:=h3.lt c hc;grind
    grind
   ·have:=h3.cX c hc;grind
 ·refine⟨⟨fun _ h=>h,fun _ h=>h,fun _ h=> .inl h,fun _ h=> .inl h,fun c hc=>hw c (h3.cX c hc) (by simp),rfl,rfl,rfl,by simp[w']⟩,by simp[St.new],fun b hb=>⟨?_,rfl⟩,fun b hb=> ?_,fun n B B' _ hB Tb we=> ?_⟩
  ·grind[Env.eR]
  ·grind[List.getElem?_eq_some_iff,St.new,List.getElem?_append_left]
  ·have vh:=(ALO.1 hB).1
   simp only[St.new]at Tb;rw[AOh vh,hB]at Tb;cases Tb;refine⟨VB.refl we,fun c hc=> ?_⟩;have hF:Fs[n]? =some (Fs[n]'(by omega)):=ALD _;rcases eG (h2 n B _ hB hF) hc with hs|hs
   ·exact hw c (h3.cX c (st c hs)) (by simp)
   ·exact hw c (h3.lt c (AQP.2 ⟨_,AO9 hF,hs⟩)) (by simp)
 ·refine⟨by simp[St.new],?_⟩
  simp[E',Env.eR]
end Go.Fw
end
section
namespace Go.Fw
theorem Gm:∀r:Ty,(Ej r).length=r.n
 | .cons c r=>by simp[Ej,Ty.n,Gm r]
 | .unit=>rfl
 | .int _=>rfl
 | .bool=>rfl
 | .str=>rfl
 | .sl _=>rfl
theorem Zx{E:Env}{w:World}{vw:List Bx}(t:Ty):VR E w vw (xr t) (zv t):=by
 cases t<;>first
  |exact VR.int _ _
  |exact VR.bool _
  |exact VR.str _
  |rfl
  |trivial
theorem YR{E:Env}{w:World}{vw:List Bx}:∀r:Ty,i7 E w vw (bM r) (Ej r)
 | .cons c r=>⟨Zx c,YR r⟩
 | .unit=>trivial
 | .int k=>⟨Zx (.int k),trivial⟩
 | .bool=>⟨Zx .bool,trivial⟩
 | .str=>⟨Zx .str,trivial⟩
 | .sl r=>⟨Zx (.sl r),trivial⟩
theorem eX{w:World}{S:Nat→Prop}{d:Nat}:∀{r:Ty},r.tf=true→Ow w S d r (Ej r) r.z []
 | .cons c r,h=>by
  simp only[Ty.tf,ALo]at h;simp only[Ow,Ej];refine⟨_,_,[],[],rfl,rfl,?_,eX h.2⟩;cases c with
  |sl q=>exact p9
  |int k=>simp[Ow,zv,Ty.z]
  |bool=>simp[Ow,zv,Ty.z]
  |str=>simp[Ow,zv,Ty.z]
  |unit=>simp[Ty.cell]at h
  |cons _ _=>simp[Ty.cell]at h
 | .unit,_=>by simp[Ow,Ej]
 | .int k,_=>by simp[Ow,Ej,zv,Ty.z]
 | .bool,_=>by simp[Ow,Ej,zv,Ty.z]
 | .str,_=>by simp[Ow,Ej,zv,Ty.z]
 | .sl q,_=>p9
theorem Ye{n:Nat}:∀{css:List (List Value)} {ex:List Value} {i j:Nat} {cs:List Value},(∀c∈css,c.length=n)→css[i]? =some cs→j<n→(css.flatten++ex)[i*n+j]? =cs[j]?
 |[],_,_,_,_,_,h,_=>by simp at h
 |c::css,ex,0,j,cs,hl,h,hj=>by
  grind
 |c::css,ex,i+1,j,cs,hl,h,hj=>by
  have hc:=hl c (by simp);have ih:=Ye (css:=css) (ex:=ex) (i:=i) (j:=j) (cs:=cs) (fun c' cR=>hl c' (AU9 _ cR)) (by simp_all) hj;simp only[AQ1,ANi];rw[APH (by grind),←ih];congr 1;grind
theorem lx{w:World}{b:Nat}{arr:Array Value}{ty:TypeId}{fr:ABj}(hb:w.heap[b]? =some (.cells arr ty fr)){n:Nat}{css:List (List Value)}{ex:List Value}(ha:arr.toList=css.flatten++ex)
  (hl:∀c∈css,c.length=n) {i:Nat} {cs:List Value} (h:css[i]? =some cs):BT w b (i*n) cs:=by
 intro j v hj;have hjn:j<n:=by
  grind
 simp only[World.cell?,hb,AQh,AL6,APB];rw[←Array.getElem?_toList,ha,Ye hl h hjn,hj]
theorem dx{w:World}{S:Nat→Prop}{d b cap:Nat}{r:Ty}{rows:List r.D}{arr:Array Value}{ty:TypeId}{fr:ABj}(hb:w.heap[b]? =some (.cells arr ty fr)){css:List (List Value)}{ex:List Value}
  (ha:arr.toList=css.flatten++ex) (hc:css.length=rows.length) (wg:rows.length≤cap) (PQ:cap*r.n≤arr.size) (hu:v_ fr (arr.size+mk r)) {Fs:List AAs} (hF:Fs.length=rows.length)
  (cI:∀(i:Nat) cs y G,css[i]? =some cs→rows[i]? =some y→Fs[i]? =some G→Ow w S d r cs y G):
  Ow w S (d+1) (.sl r) [.slice (some ⟨b,0,none⟩) rows.length cap] rows (b::Fs.flatten):=by
 have hl:∀c∈css,c.length=r.n:=by
  intro c cR;obtain⟨i,hi,rfl⟩:=AQS cR;exact Xh (cI i _ _ _ (ALD hi) (ALD (by omega)) (ALD (by omega)))
 simp only[Ow];refine⟨_,cap,rfl,wg,.inr ⟨b,0,arr,ty,fr,Fs,rfl,hb,by omega,hu,rfl,hF,fun i y G hy hG=> ?_⟩⟩;have hi:i<css.length:=by
  grind
 refine⟨css[i],hl _ (AMx hi),?_,cI i _ y G (ALD hi) hy hG⟩;rw[AQu];grind[lx,List.getElem?_eq_getElem]
theorem Wa(n:Nat):v_ (0,0) n:=fun i _ h=>by omega
theorem Ir{w:World}{o:Obj}{c:Nat}(h:c<w.heap.size):(w.heap.push o)[c]? =w.heap[c]?:=by
 grind
section
variable{Y:Type} {P:Program} {T:Jm} (hT:En P T) {o:Oper} {E:Env} {σ:St} {a:Act} {w:World} {k:K Y} {y:Y}
theorem ADT(h:Rel E σ a w){t:TypeId}{x:Operand}(ho:o.op= .box t x)(hk:(σ.ev x).cells.all AV.known=true)(hn:(σ.ev x).cells≠[])(e:k (.c (.IX σ.bx.length 0)) (σ.new (.mem (σ.ev x).cells))=some y):
  Lr P o E σ a w k y:=by
 obtain⟨h1,h2⟩:=n_ (h.ev x) hk hn;obtain⟨r1,r2,r3⟩:=nN h t h1;refine⟨_,_,_,_,_,.inl ?_,r1,r3,r2.any,rfl,e⟩;simp only[execOp,ho,Instr.box,newVar,newRow,Sem.run_bind,run_newObj,Result.andThen_ok,Sem.run_pure];rfl
include hT
theorem row_zero{t:Nat}{r:Ty}(e:T.iW t=some r):∃i z,P.info? t=some i∧i.zero=some z∧z.cells.toList=Ej r∧r.tf=true:=by
 unfold Jm.iW at e;split at e
 ·rename_i ti Uy
  obtain⟨i,h1,_,_,h2⟩:=(hT t ti Uy).info;simp_all
 simp_all
theorem wO(h:Rel E σ a w){t:TypeId}(ho:o.op= .alloc t){r:Ty}(hr:T.iW t=some r)(e:k (.c (.IX σ.bx.length 0)) (σ.new (.mem (bM r)))=some y):Lr P o E σ a w k y:=by
 obtain⟨i,z,h1,h2,h3,_⟩:=row_zero hT hr;obtain⟨r1,r2,r3⟩:=nN (arr:=z.cells) h t (by rw[h3];exact YR r);refine⟨_,_,_,_,_,.inl ?_,r1,r3,r2.any,rfl,e⟩;simp only[execOp,ho,Instr.alloc,zeroValue,typeInfo,newVar,newRow,Sem.run_bind,run_program,Result.andThen_ok,h1,h2,run_newObj,Sem.run_pure];rfl
end
end Go.Fw
end
section
namespace Go.Fw
def FC(arr:Array Value):Nat→List Value→Array Value
 |_,[]=>arr
 |o,c::l=>FC (arr.setIfInBounds o c) (o+1) l
theorem FT:∀(l:List Value) (o:Nat) (arr:Array Value),(FC arr o l).size=arr.size
 |[],_,_=>rfl
 |c::l,o,arr=>by simp[FC,FT l]
theorem pV(off:Nat):∀(l:List Value) (k:Nat) (arr:Array Value),(l.zipIdx k).foldl (fun cs (q:Value×Nat)=>cs.setIfInBounds (off+q.2) q.1) arr=FC arr (off+k) l
 |[],_,_=>rfl
 |c::l,k,arr=>by
  simp only[List.zipIdx_cons,List.foldl_cons,FC];rw[pV off l (k+1)];rfl
theorem XK{E:Env}{w:World}{vw:List Bx}:∀{xs:List AV} {vs:List Value} {cs dR:List AV} {arr:Array Value} {o:Nat},i7 E w vw cs arr.toList→i7 E w vw xs vs→XZ cs o xs=some dR→
  i7 E w vw dR (FC arr o vs).toList∧o+xs.length≤cs.length∨(xs=[]∧dR=cs)
 |[],[],cs,dR,arr,o,h,_,e=>by simp only[XZ,ALL]at e;simp_all
 |x::xs,v::vs,cs,dR,arr,o,h,hx,e=>by
  simp only[XZ]at e;split at e
  case isFalse=>cases e
  rename_i ho;have h1:i7 E w vw (cs.set o x) (arr.setIfInBounds o v).toList:=by
   rw[Array.toList_setIfInBounds];exact CR.set h hx.1
  rcases XK h1 hx.2 e with⟨h2,h3⟩|⟨rfl,rfl⟩
  ·refine .inl ⟨h2,?_⟩
   grind
  ·cases vs with
   |nil=>exact .inl ⟨h1,by grind⟩
   |cons _ _=>exact hx.2.elim
 |[],_::_,_,_,_,_,_,hx,_=>hx.elim
 |_::_,[],_,_,_,_,_,hx,_=>hx.elim
section
variable{Y:Type} {P:Program} {T:Jm} (hT:En P T) {o:Oper} {E:Env} {σ:St} {a:Act} {w:World} {k:K Y} {y:Y}
def xZ(E:Env)(w:World)(vw:List Bx)(l:List (Nat×XV))(m:List (Nat×Value)):Prop:=CR (fun x v=>x.1=v.1∧XR E w vw x.2 v.2) l m
theorem oh(h:Rel E σ a w)(ps:Array (Nat×Operand)):xZ E w σ.bx (ps.toList.map fun q=>(q.1,σ.ev q.2)) (ps.map fun(i,x)=>(i,a.eval x)).toList:=by
 rw[Array.toList_map]
 generalize ps.toList=l
 induction l with
 |nil=>trivial
 |cons q l ih=>exact⟨⟨rfl,h.ev q.2⟩,ih⟩
theorem rv{place:Nat→Option ABj}{i off size:Nat}(hp:place i=some (off,size)){cells:Array Value}{v:Value}{rest:List (Nat×Value)}(h1:v.cells.size=size)(h2:off+v.cells.size≤cells.size):
  Instr.fill place cells ((i,v)::rest)=Instr.fill place (FC cells off v.cells.toList) rest:=by
 have e:v.cells.zipIdx.foldl (fun cs (q:Value×Nat)=>cs.setIfInBounds (off+q.2) q.1) cells=FC cells off v.cells.toList:=by
  rw[←Array.foldl_toList];have:(v.cells.zipIdx).toList=v.cells.toList.zipIdx:=by simp
  rw[this];exact pV off v.cells.toList 0 cells
 conv=>lhs;unfold Instr.fill
 grind
theorem oq{α β:Type}{f:α→Option β}{g:α→β}:∀{l:List α},(∀x∈l,f x=some (g x))→l.mapM f=some (l.map g)
 |[],_=>rfl
 |x::l,h=>by
  simp only[AVG,h x (by simp),oq (l:=l) (g:=g) (fun y hy=>h y (by simp[hy]))];rfl
include hT
theorem aW{fs:List ABj}{vw:List Bx}:∀{parts:List (Nat×XV)} {vals:List (Nat×Value)} {cs dR:List AV} {arr:Array Value},xZ E w vw parts vals→i7 E w vw cs arr.toList→gX T fs cs parts=some dR→
  ∃KI:Array Value,Instr.fill (fun i=>(fs[i]?).bind fun q=>((P.info? q.2).map fun i=>(q.1,i.size))) arr vals=some KI∧i7 E w vw dR KI.toList
 |[],[],cs,dR,arr,_,h,e=>by
  simp only[gX,ALL]at e;subst e;exact⟨arr,rfl,h⟩
 |(i,x)::ps,(j,v)::vs,cs,dR,arr,hp,h,e=>by
  obtain⟨⟨hij,hx⟩,hp⟩:=hp;simp only at hij hx;subst hij;simp only[gX]at e;split at e
  case h_2=>cases e
  rename_i off u hf;split at e
  case h_2=>cases e
  rename_i ti Uy;split at e
  case isFalse=>cases e
  rename_i hc;obtain⟨c1,c2,c3⟩:=hc;simp only[ALe]at e;obtain⟨cs1,e1,e2⟩:=e;have cq:x.cells≠[]:=by grind
  obtain⟨x1,x2⟩:=n_ hx c3 cq;rcases XK h x1 e1 with⟨s1,s2⟩|⟨s1,_⟩
  ·have PQ:v.cells.size=ti.size:=by
    have:=x1.len;simp_all
   have hlen:=h.len;obtain⟨KI,f1,f2⟩:=aW hp s1 e2;refine⟨KI,?_,f2⟩;have AXg:(fun i=>(fs[i]?).bind fun q=>((P.info? q.2).map fun i=>(q.1,i.size))) i=some (off,ti.size):=by
    have:=En.size hT Uy;simp_all
   grind[rv]
  simp_all
 |[],_::_,_,_,_,hp,_,_=>hp.elim
 |_::_,[],_,_,_,hp,_,_=>hp.elim
theorem w7(h:Rel E σ a w){t:TypeId}{ps:Array (Nat×Operand)}(ho:o.op= .build t ps){s b:Nat}{fs:List ABj}{rw:Option Ty}(Uy:T.get t=some ⟨s,b,.st fs,rw⟩){r:Ty}(hr:T.iW t=some r)
  {cs:List AV} (hb:gX T fs (bM r) (ps.toList.map fun q=>(q.1,σ.ev q.2))=some cs) (e:k (.agg cs) σ=some y):Lr P o E σ a w k y:=by
 obtain⟨i,z,h1,h2,h3,_⟩:=row_zero hT hr;obtain⟨fields,hu,hfs,PQ⟩:=AFL hT Uy;obtain⟨KI,f1,f2⟩:=aW hT (oh h ps) (arr:=z.cells) (by grind[YR]) hb;refine Lr.same h (v:= .agg KI) (x:= .agg cs) ?_ ⟨KI,rfl,f2⟩ e
 have hb:P.built t (ps.map fun(i,x)=>(i,a.eval x)).toList=some KI:=by
  unfold Program.built;simp only[h1,hu,h2];have hm:fields.toList.mapM (fun f=>(P.info? f.type).map fun i=>(f.offset,i.size))=some (fields.toList.map fun f=>(f.offset,((P.info? f.type).map (·.size)).getD 0)):=by
   grind[oq]
  simp only[hm];rw[←f1];congr 1;funext n;subst hfs;simp only[List.getElem?_toArray,AQN];cases hn:fields.toList[n]? with
  |none=>simp
  |some f=>
   obtain⟨i',DG,_⟩:=PQ f (AO9 hn);simp[DG]
 grind[run_build,execOp,Sem.run_bind,Result.andThen_ok,Sem.run_pure]
end
end Go.Fw
end
section
namespace Go.Fw
theorem wrap_small{n:Int}(h0:0≤n)(h1:n≤(DA:Int)):IntKind.i64.wrap n=n:=by
 simp only[DA]at h1;unfold IntKind.wrap;simp only[IntKind.bits,IntKind.signed];grind
theorem G9{m:Nat}{zl:List Value}:((List.replicate m zl).flatten).length=m*zl.length:=by
 simp_all
theorem NQ{zl:List Value}:∀{m i:Nat},i<m*zl.length→((List.replicate m zl).flatten)[i]? =zl[i%zl.length]?
 |0,i,h=>by omega
 |m+1,i,h=>by
  simp only[List.replicate_succ,AQ1];by_cases hi:i<zl.length
  ·rw[AOh hi,Nat.mod_eq_of_lt hi]
  ·have DG:zl.length≤i:=by omega
   rw[APH DG,NQ (by grind),←Nat.mod_eq_sub_mod DG]
theorem WG{zero:Array Value}{zl:List Value}(hz:zero.toList=zl)(m:Nat)(h0:zl≠[]):((Array.range (m*zl.length)).map (fun i=>zero[i%zero.size]!)).toList=(List.replicate m zl).flatten:=by
 have hs:zero.size=zl.length:=by grind
 have AEX:0<zl.length:=AVA.2 h0;apply ARn;intro i;by_cases hi:i<m*zl.length
 ·grind[NQ,Nat.mod_lt,Array.toList_map,Array.toList_range,List.getElem?_range,List.getElem?_eq_getElem]
 simp_all
section
variable{Y:Type} {P:Program} {T:Jm} (hT:En P T) {o:Oper} {E:Env} {σ:St} {a:Act} {w:World} {k:K Y} {y:Y}
include hT
theorem Wc{e:Nat}{ti:TI}{r:Ty}(he:T.get e=some ti)(hr:ti.row=some r):∃i z,P.info? e=some i∧i.size=ti.size∧i.bytes=ti.bytes∧i.zero=some z∧z.cells.toList=Ej r∧r.tf=true:=by
 obtain⟨i,h1,h2,h3,h4⟩:=(hT e ti he).info;simp_all
theorem zM(h:Rel E σ a w){t:TypeId}{l c:Operand}(ho:o.op= .makeSlice t l c)(e:rj T t σ (σ.ev l) (σ.ev c) k=some y):Lr P o E σ a w k y:=by
 unfold rj at e;split at e
 case h_2=>cases e
 rename_i el n m hd hl hc;split at e
 case h_2=>cases e
 rename_i r hr;split at e
 case isFalse=>cases e
 rename_i Uj;split at e
 case isFalse=>cases e
 rename_i hb;obtain⟨b0,b1,b2⟩:=hb;obtain⟨el',ti,hu,Uy,hs,hby,hrow⟩:=Ka hT Uj;obtain⟨i,z,i1,i2,i3,i4,i5,hg⟩:=Wc hT Uy hrow;obtain⟨κ1,e1⟩:=Io hl (h.ev l);obtain⟨κ2,e2⟩:=Io hc (h.ev c);have w1:=wrap_small b0 (by omega);have w2:=wrap_small (n:=m) (by omega) b2
 let arr:Array Value:=(Array.range (m.toNat*r.n)).map (fun j=>(if m.toNat*r.n=0 then #[]else z.cells)[j%(if m.toNat*r.n=0 then(#[]:Array Value)else z.cells).size]!)
 have cO:arr.toList=(List.replicate n.toNat (Ej r)).flatten++(List.replicate (m.toNat-n.toNat) (Ej r)).flatten:=by
  have hz:=Gm r;have split:(List.replicate n.toNat (Ej r)).flatten++(List.replicate (m.toNat-n.toNat) (Ej r)).flatten=(List.replicate m.toNat (Ej r)).flatten:=by
   grind[List.flatten_append,List.replicate_append_replicate]
  rw[split];by_cases h0:m.toNat*r.n=0
  ·grind[List.length_eq_zero_iff,G9]
  ·have cq:Ej r≠[]:=by
    grind
   have:=WG i5 m.toNat cq;grind
 let w':=w.alloc (.cells arr el')
 have new:w'.heap[w.heap.size]? =some (.cells arr el'):=by
  show(w.heap.push (.cells arr el'))[w.heap.size]? =_
  simp
 have AKO:arr.size=m.toNat*r.n:=by simp[arr]
 have how:Ow w' E.S (8+1) (.sl r) [.slice (some ⟨w.heap.size,0,none⟩) (List.replicate n.toNat r.z).length m.toNat] (List.replicate n.toNat r.z) (w.heap.size::(List.replicate n.toNat ([]:AAs)).flatten):=by
  refine dx new cO (by simp) (by grind) (by omega) (Wa _) (by simp) fun i cs y G h1 h2 h3=> ?_
  simp only[List.getElem?_replicate]at h1 h2 h3;split at h1
  ·rename_i hi
   rw[ALC hi]at h2 h3;grind[eX]
  simp_all
 have hF:(List.replicate n.toNat ([]:AAs)).flatten=[]:=by simp
 rw[hF]at how;simp only[AQv]at how;obtain⟨r1,r2,r3⟩:=Tg h (G6.refl h.bx) (w':=w') (d:=9) (by omega) how (by simp) (by simp) (by simp[w']) (fun c hc _=>Ir hc) ⟨rfl,rfl,rfl,by simp[w']⟩;refine⟨_,_,_,_,_,.inl ?_,r1,r3,r2.any,rfl,e⟩;have AV7:(i.bytes:Int)*m≤2^48:=by
  have h1:(i.bytes:Int)≤512:=by omega
  have h2:(i.bytes:Int)*m≤512*m:=Int.mul_le_mul_of_nonneg_right h1 (by omega);grind[DA]
 simp only[execOp,ho,Instr.makeSlice,e1,e2,Sem.run_bind,BR hu,Result.andThen_ok,asInt,asIntOf,Sem.run_pure,typeInfo,run_program,i1,w1,w2];rw[ALG (by grind)];by_cases h0:m.toNat*r.n=0
 ·have e3:arr=(Array.range (m.toNat*r.n)).map (fun j=>(#[]:Array Value)[j%(#[]:Array Value).size]!):=by simp_all
  simp only[Sem.run_bind,run_askRoom,Result.andThen_ok,sizeOf,typeInfo,run_program,i1,Sem.run_pure,i2,hs,h0,AQV,newRow,run_newObj];simp only[w',e3,h0];rfl
 ·have e3:arr=(Array.range (m.toNat*r.n)).map (fun j=>z.cells[j%z.cells.size]!):=by grind
  simp only[Sem.run_bind,run_askRoom,Result.andThen_ok,sizeOf,typeInfo,run_program,i1,Sem.run_pure,i2,hs,h0,APB,newRow,run_newObj,zeroValue,i4];simp only[w',e3];rfl
end
end Go.Fw
end
section
namespace Go.Fw
theorem jA{w:World}{B S:Nat→Prop}{d:Nat}:∀{r:Ty} {cs:List Value} {x:r.D},r.flat=true→Rd w B r cs x→Ow w S d r cs x []
 | .cons c r,cs,x,h,hr=>by
  simp only[Ty.flat,ALo]at h;simp only[Rd]at hr;obtain⟨v,l,rfl,h1,h2⟩:=hr;simp only[Ow];exact⟨v,l,[],[],rfl,rfl,jA h.1 h1,jA h.2 h2⟩
 | .unit,_,_,_,hr=>by grind[Rd,Ow]
 | .int k,_,_,_,hr=>by grind[Rd,Ow]
 | .bool,_,_,_,hr=>by grind[Rd,Ow]
 | .str,_,_,_,hr=>by grind[Rd,Ow]
 | .sl q,_,_,h,_=>by simp[Ty.flat]at h
theorem Ll{P:Program}{w:World}{b o:Nat}{cs:List Value}(h:BT w b o cs):(loadCells ⟨b,o,none⟩ cs.length).run P w= .ok cs.toArray w:=
 run_loadCells_list (P:=P) w ⟨b,o,none⟩ cs fun j v hv=>by rw[Addr.add_eq];exact h j v hv
theorem Xc{l:List Value}:(l.map fun v=>[v]).flatten=l:=by
 induction l with
 |nil=>rfl
 |cons a l ih=>simp[ih]
theorem nX{w:World}{B:Nat→Prop}{r:Ty}{b o:Nat}{ys:List r.D}(h:∀(i:Nat) (y:r.D),ys[i]? =some y→ ∃cs,cs.length=r.n∧BT w b (o+i*r.n) cs∧Rd w B r cs y):
  ∃css:List (List Value),css.length=ys.length∧(∀c∈css,c.length=r.n)∧BT w b o css.flatten∧ ∀(i:Nat) cs y,css[i]? =some cs→ys[i]? =some y→Rd w B r cs y:=by
 induction ys generalizing o with
 |nil=>exact⟨[],rfl,by simp,fun _ _ h=>by simp at h,fun i cs y h=>by simp at h⟩
 |cons y ys ih=>
  obtain⟨cs,c1,c2,c3⟩:=h 0 y rfl;obtain⟨css,d1,d2,d3,d4⟩:=ih (o:=o+r.n) (fun i z hz=>by
   obtain⟨cs,e1,e2,e3⟩:=h (i+1) z (by simp_all);grind)
  refine⟨cs::css,by simp[d1],by simp_all,?_,?_⟩
  ·intro j v hj
   simp only[AQ1]at hj;by_cases wI:j<cs.length
   ·rw[AOh wI]at hj
    have:=c2 j v hj;simp_all
   ·rw[APH (by omega)]at hj
    have:=d3 _ v hj;grind
  grind
theorem BT.append{w:World}{b o:Nat}{l m:List Value}(h:BT w b o l)(k:BT w b (o+l.length) m):BT w b o (l++m):=by
 intro j v hj;by_cases wI:j<l.length
 ·rw[AOh wI]at hj
  exact h j v hj
 ·rw[APH (by omega)]at hj
  have:=k _ v hj;grind
section
variable{Y:Type} {P:Program} {T:Jm} (hT:En P T) {o:Oper} {E:Env} {σ:St} {a:Act} {w:World} {k:K Y} {y:Y}
theorem Iy(hT:En P T){t:Nat}{d:TD}(e:(T.get t).map TI.desc=some d):gi P t d:=by
 simp only[ALN]at e;obtain⟨ti,h1,rfl⟩:=e;exact(hT t ti h1).und
theorem oV{src dst e:Nat}(hs:P.underlying src=some (.slice e))(he:P.underlying e=some (.int .u8))(hd:P.underlying dst=some .string){x:Value}{l:AAM}{B:Nat→Prop}
  (h:Rd w B (.sl (.int .u8)) [x] l):(convert src dst x).run P w= .ok (.string ⟨(l.map fun n:Int=>UInt8.ofNat n.toNat).toArray⟩) w:=by
 simp only[Rd]at h;obtain⟨a,cap,hx,hle,h⟩:=h;simp only[APx,AQc]at hx;subst hx;rcases h with h|⟨b,o,rfl,_,h⟩
 ·obtain rfl:=AP0 h
  cases a with
  |none=>exact run_convert_bytes_nil w src e hs he _ _ dst hd
  |some a=>
   rw[run_convert_bytes_string w src dst e _ _ cap hs he hd];rfl
 ·refine run_convert_bytes_arg w src e hs he b o _ cap l rfl (fun i hi=> ?_) dst hd
  obtain⟨cs,c1,c2,c3⟩:=h i _ (ALD hi);subst c3;have:=c2 0 _ rfl;grind
include hT in
theorem zd(h:Rel E σ a w){src dst:Nat}{x:Operand}(ho:o.op= .convert src dst x)(e:qy T src dst σ (σ.ev x) k=some y):Lr P o E σ a w k y:=by
 have hx:=h.ev x;unfold qy at e;split at e
 ·rename_i κ0 κ j n hs hd hv
  have h1:=Iy hT hs;have h2:=Iy hT hd;rw[hv]at hx;have X8:=bJ (E:=E) (w:=w) (vw:=σ.bx) hx;refine Lr.same h (v:= .int κ (κ.wrap n)) (x:= .c (.v (.int κ) (κ.wrap n))) ?_ (VR.int (E:=E) (vw:=σ.bx) _ _) e
  simp only[gi]at h1 h2;simp only[execOp,ho,X8,convert,Sem.run_bind,BR h1,BR h2,Result.andThen_ok,Conv.intToInt,Sem.run_pure]
 ·rename_i s hs hd hv
  have h1:=Iy hT hs;have h2:=Iy hT hd;rw[hv]at hx;have X8:=Ww (E:=E) (w:=w) (vw:=σ.bx) hx;refine Lr.same h (v:= .string ⟨s.toArray⟩) (x:= .c (.v .str s)) ?_ (VR.str (E:=E) (vw:=σ.bx) _) e
  simp only[gi]at h1 h2;simp only[execOp,ho,X8,convert,Sem.run_bind,BR h1,BR h2,Result.andThen_ok,Sem.run_pure]
 ·rename_i el s hs hd hv
  have h1:=Iy hT hs;have h2:=Iy hT hd;rw[hv]at hx;have X8:=Ww (E:=E) (w:=w) (vw:=σ.bx) hx;split at e
  case h_2=>cases e
  rename_i Uj;have h3:=Iy hT Uj;split at e
  case isFalse=>cases e
  rename_i Xy;simp only[gi]at h1 h2 h3
  let S0:ByteArray:=⟨s.toArray⟩
  have PQ:S0.size=s.length:=by simp[S0,ByteArray.size]
  have jl:=Lib.run_convert_string_bytes (P:=P) w src dst el S0 h1 h2 h3;have wg:s.length≤grownCap w S0.size 0 el:=by rw[PQ];exact grownCap_ge _ _ _ _
  have new:=Lib.bytesWorld_at_new w el S0;have cO:(Lib.bytesCells w el S0).toList=(s.map fun c=>[Value.int .u8 (c.toNat:Int)]).flatten++List.replicate (grownCap w S0.size 0 el-S0.size) (.int .u8 0):=by
   have:(s.map fun c=>[Value.int .u8 (c.toNat:Int)]).flatten=s.map fun c=>Value.int .u8 (c.toNat:Int):=by
    have:=Xc (l:=s.map fun c=>Value.int .u8 (c.toNat:Int));simpa[ARt,Function.comp_def]using this
   rw[this];simp[Lib.bytesCells,S0]
  have AKO:(Lib.bytesCells w el S0).size=grownCap w S0.size 0 el:=by
   rw[←AR5,cO];have:((s.map fun c=>[Value.int .u8 (c.toNat:Int)]).flatten).length=s.length:=by
    have:=Xc (l:=s.map fun c=>Value.int .u8 (c.toNat:Int));rw[ARt]at this;have e2:(s.map fun c=>[Value.int .u8 (c.toNat:Int)])=s.map ((fun v=>[v])∘fun c=>Value.int .u8 (c.toNat:Int)):=rfl;rw[e2,this];simp
   rw[AOc,this,AQv];omega
  have how:Ow (Lib.bytesWorld w el S0) E.S (8+1) (.sl (.int .u8)) [.slice (some ⟨w.heap.size,0,none⟩) (s.map fun c=>(c.toNat:Int)).length (grownCap w S0.size 0 el)] (s.map fun c=>(c.toNat:Int))
    (w.heap.size::(List.replicate s.length ([]:AAs)).flatten):=by
   refine dx (css:=s.map fun c=>[Value.int .u8 (c.toNat:Int)]) new cO (by simp) (by simpa using wg) (by simp[Ty.n];omega) (fun i hi hh=>by simp only[mk]at hi;omega) (by simp) fun i cs y G q1 q2 q3=> ?_
   simp only[AQN,ALN]at q1 q2;obtain⟨c1,z1,rfl⟩:=q1;obtain⟨c2,z2,rfl⟩:=q2;rw[z1]at z2;cases z2;have:G=[]:=AQw (AO9 q3);subst this;simp[Ow]
  have hF:(List.replicate s.length ([]:AAs)).flatten=[]:=by simp
  rw[hF]at how;obtain⟨r1,r2,r3⟩:=Tg h (G6.refl h.bx) (w':=Lib.bytesWorld w el S0) (d:=9) (by omega) how (by simp) (by simp) (by simp[Lib.bytesWorld_size]) (fun c hc _=>Lib.bytesWorld_at_old w el S0 c hc)
   ⟨by simp[Lib.bytesWorld,World.freeze]<;>rfl,by simp[Lib.bytesWorld,World.freeze]<;>rfl,by simp[Lib.bytesWorld,World.freeze]<;>rfl,by rw[Lib.bytesWorld_size];omega⟩
  refine⟨_,_,_,_,_,.inl ?_,r1,r3,r2.any,rfl,e⟩;simp only[execOp,ho,X8,Sem.run_bind];have e5:=jl;simp only[S0]at e5;rw[e5];simp only[Result.andThen_ok,Sem.run_pure,AQ6];rfl
 ·rename_i el z hs hd hv
  have h1:=Iy hT hs;have h2:=Iy hT hd;rw[hv]at hx;split at e
  case h_2=>cases e
  rename_i l Uj hl;have h3:=Iy hT Uj;simp only[gi]at h1 h2 h3;obtain⟨Fs,hB,hS⟩:=h.bx;have Xu:=U2 (FG.refl σ.bx) hB hS.st hx hl;have hr:=oV (P:=P) h1 h3 h2 Xu;refine Lr.same h (v:= .string ⟨(l.map fun n:Int=>UInt8.ofNat n.toNat).toArray⟩) (x:= .c (.v .str (l.map fun n:Int=>UInt8.ofNat n.toNat))) ?_ (VR.str (E:=E) (vw:=σ.bx) _) e
  simp only[execOp,ho,Sem.run_bind,hr,Result.andThen_ok,Sem.run_pure]
 ·cases e
end
end Go.Fw
end
section
namespace Go.Fw
theorem bh:∀(l:List Value) (o:Nat) (arr:Array Value) (p q:List Value),p.length=o→(∃m:List Value,m.length=l.length∧arr.toList=p++m++q)→(FC arr o l).toList=p++l++q
 |[],o,arr,p,q,hp,⟨m,hm,h⟩=>by
  grind[List.eq_nil_of_length_eq_zero,FC]
 |c::l,o,arr,p,q,hp,⟨m,hm,h⟩=>by
  cases m with
  |nil=>simp_all
  |cons b m=>
   simp only[FC];have:=bh l (o+1) (arr.setIfInBounds o c) (p++[c]) q (by simp[hp]) ⟨m,by simp_all,by
    simp_all⟩
   simp_all
theorem G6.more{E E1 E2:Env}{w:World}{vw bx jV aQ:List Bx}{G F1 F2 A W:AAs}(k1:G6 E w vw bx G E1 jV F1)(k2:G6 E1 w vw jV (F1++G) E2 aQ F2)(hp:F1.Perm (A++W)):
  let E3:Env:={ E2 with S:=fun c=>E2.S c∨c∈W,T:=fun c=>E2.T c∨c∈W }
  G6 E w vw bx G E3 aQ (A++F2):=by
 intro E3;have hB:=k2.boxes.perm (G':=(F2++A)++W++G) (by
  grind)
 obtain⟨hle,Xx⟩:=hB.share;exact⟨(k1.le.trans k2.le).trans hle,k2.len.trans k1.len,fun b B hb=>(k2.within b B hb).elim .inl (k1.within b B),Xx.perm (ARP _ List.perm_append_comm)⟩
theorem Za{w:World}{vw:List Bx}{r:Ty}(hg:r.tf=true):∀{n i:Nat} {parts:List (Nat×XV)} {vals:List (Nat×Value)} {E:Env} {bx:List Bx} {G:AAs} {d:Nat} {rows:List r.D} {Qd:List Bx} {d':Nat},
  C7 E w vw bx G→FG bx vw→1≤d→xZ E w vw parts vals→YU r i n parts bx d=some (rows,Qd,d')→1≤d'∧d'≤d∧rows.length=n∧ ∃(E':Env) (Fs:List AAs) (css:List (List Value)),
   G6 E w vw bx G E' Qd Fs.flatten∧css.length=n∧Fs.length=n∧(∀(k:Nat) cs y G,css[k]? =some cs→rows[k]? =some y→Fs[k]? =some G→Ow w E'.S (d'-1) r cs y G)∧
   ∀(pre:List (List Value)) (arr:Array Value),pre.length=i→(∀c∈pre,c.length=r.n)→arr.toList=pre.flatten++(List.replicate n (Ej r)).flatten→
    ∃KI,Instr.fill (fun i=>some (i*r.n,r.n)) arr vals=some KI∧KI.toList=pre.flatten++css.flatten
 |0,i,[],[],E,bx,G,d,rows,Qd,d',h,hw,hd,hp,e=>by
  simp only[YU,ALL,AQD]at e;obtain⟨rfl,rfl,rfl⟩:=e;refine⟨hd,APM _,rfl,E,[],[],G6.refl h,rfl,rfl,by simp,fun pre arr _ _ ha=>⟨arr,rfl,by simp_all⟩⟩
 |n+1,i,(j,x)::l,(j',v)::m,E,bx,G,d,rows,Qd,d',h,hw,hd,hp,e=>by
  obtain⟨⟨hj,hx⟩,hp⟩:=hp;simp only at hj hx;subst hj;simp only[YU]at e;split at e
  case isFalse=>cases e
  rename_i hij;subst hij;simp only[ALe,ALN,AQD]at e;obtain⟨⟨y1,jV,d1⟩,e1,⟨y2,aQ,d2⟩,e2,rfl,rfl,rfl⟩:=e;dsimp only at e2⊢;obtain⟨a1,a2,E1,F1,k1,o1⟩:=ug h hw hd hx e1;have vj:=k1.le.keep (w:=w) (vw:=vw) h.st;obtain⟨b1,b2,b3,E2,Fs,css,k2,c1,c2,c3,c4⟩:=Za hg (G:=F1++G) k1.boxes (hw.om k1) a1 (hp.imp fun _ _ q=>⟨q.1,O_ vj q.2⟩) e2;obtain⟨A,W,nG,o1'⟩:=KE (d:=d'-1) (by omega) o1;refine⟨b1,AQL b2 a2,by simp[b3],_,A::Fs,v.cells.toList::css,G6.more k1 k2 nG,by simp[c1],by simp[c2],fun k cs y G' q1 q2 q3=> ?_,fun pre arr wR hpn ha=> ?_⟩
  ·cases k with
   |zero=>
    simp at q1 q2 q3;subst q1 q2 q3;refine EO (S:=fun b=>E1.S b∨b∈W) ?_ (fun _ _=>rfl) (fun _ _=>rfl) o1'
    intro c hc;exact hc.elim (fun h=> .inl (k2.le.S c h)) .inr
   |succ k=>
    refine EO (S:=E2.S) ?_ (fun _ _=>rfl) (fun _ _=>rfl) (c3 k cs y G' (by simp_all) (by simp_all) (by simp_all))
    simp_all
  ·have hlen:v.cells.toList.length=r.n:=Xh o1
   have hpf:pre.flatten.length=i*r.n:=by
    clear ha c4
    subst wR;clear e1 e2
    induction pre with
    |nil=>simp
    |cons c pre ih=>grind
   have UZ:(FC arr (i*r.n) v.cells.toList).toList=pre.flatten++v.cells.toList++(List.replicate n (Ej r)).flatten:=
    bh _ _ _ _ _ hpf ⟨Ej r,by rw[Gm,hlen],by grind⟩
   obtain⟨KI,f1,f2⟩:=c4 (pre++[v.cells.toList]) (FC arr (i*r.n) v.cells.toList) (by simp[wR]) (by
    grind) (by simp_all)
   refine⟨KI,?_,by simp_all⟩;rw[rv (i:=i) (off:=i*r.n) (size:=r.n) rfl (by omega) ?_]
   all_goals grind[List.length_append,G9,Gm,Nat.succ_mul]
 |n+1,i,[],[],E,bx,G,d,rows,Qd,d',h,hw,hd,hp,e=>by
  simp only[YU,ALN,AQD]at e;obtain⟨⟨y2,aQ,d2⟩,e2,rfl,rfl,rfl⟩:=e;obtain⟨b1,b2,b3,E2,Fs,css,k2,c1,c2,c3,c4⟩:=Za hg (G:=G) h hw hd (parts:=[]) (vals:=[]) trivial e2;refine⟨b1,b2,by simp[b3],E2,[]::Fs,Ej r::css,by simp_all,by simp[c1],by simp[c2],fun k cs y G' q1 q2 q3=> ?_,fun pre arr wR hpn ha=> ?_⟩
  ·grind[eX]
  ·obtain⟨KI,f1,f2⟩:=c4 (pre++[Ej r]) arr (by simp[wR]) (by
    grind[Gm]) (by grind)
   simp_all
 |0,_,_::_,_,_,_,_,_,_,_,_,_,_,_,_,e=>by simp[YU]at e
 |0,_,[],_::_,_,_,_,_,_,_,_,_,_,_,hp,_=>hp.elim
 |_+1,_,[],_::_,_,_,_,_,_,_,_,_,_,_,hp,_=>hp.elim
 |_+1,_,_::_,[],_,_,_,_,_,_,_,_,_,_,hp,_=>hp.elim
section
variable{Y:Type} {P:Program} {T:Jm} (hT:En P T) {o:Oper} {E:Env} {σ:St} {a:Act} {w:World} {k:K Y} {y:Y}
include hT
theorem mY(h:Rel E σ a w){t n:Nat}{ps:Array (Nat×Operand)}(ho:o.op= .buildSlice t n ps)(e:RH T t n (ps.toList.map fun q=>(q.1,σ.ev q.2)) σ k=some y):Lr P o E σ a w k y:=by
 unfold RH at e;split at e
 case h_2=>cases e
 rename_i el hd;split at e
 case h_2=>cases e
 rename_i r hr;split at e
 case isFalse=>cases e
 rename_i hc;simp only[ALo,ANR]at hc;obtain⟨⟨Uj,hn⟩,hrn⟩:=hc;simp only[ALe]at e;obtain⟨⟨rows,Qd,d'⟩,e1,e⟩:=e;dsimp only at e;obtain⟨el',ti,hu,Uy,hs,hby,hrow⟩:=Ka hT Uj;obtain⟨i,z,i1,i2,i3,i4,i5,hg⟩:=Wc hT Uy hrow;have ANP:=oh h ps;obtain⟨b1,b2,b3,E',Fs,css,k2,c1,c2,c3,c4⟩:=Za hg h.bx (FG.refl _) (by omega) ANP e1
 let zero:Array Value:=if n*r.n=0 then #[]else z.cells
 have hz:((Array.range (n*r.n)).map (fun j=>zero[j%zero.size]!)).toList=(List.replicate n (Ej r)).flatten:=by
  by_cases h0:n*r.n=0
  ·have h1:(List.replicate n (Ej r)).flatten=[]:=by
    rw[←AT_,G9,Gm,h0]
   rw[h1];simp[h0]
  ·have cq:Ej r≠[]:=by
    intro he;have:=Gm r;rw[he]at this;simp at this;rw[←this]at h0;simp at h0
   have:=WG i5 n cq;rw[Gm]at this;simp only[zero,ALG h0];exact this
 obtain⟨KI,f1,f2⟩:=c4 [] _ rfl (by simp) (by rw[hz];simp);simp only[ASC,APq]at f2
 let w':=w.alloc (.cells KI el')
 have new:w'.heap[w.heap.size]? =some (.cells KI el'):=by
  show(w.heap.push (.cells KI el'))[w.heap.size]? =_
  simp
 obtain⟨d,rfl⟩:∃m,d' =m+1:=⟨d'-1,by omega⟩;have hl:∀c∈css,c.length=r.n:=by
  intro c hc;obtain⟨j,hj,rfl⟩:=AQS hc;exact Xh (c3 j _ _ _ (ALD hj) (ALD (by omega)) (ALD (by omega)))
 have wC:css.flatten.length=n*r.n:=by
  rw[←c1];clear f2 c3 c4 c1
  induction css with
  |nil=>simp
  |cons c l ih=>simp[hl c (by simp),ih (fun c hc=>hl c (by simp[hc])),Nat.succ_mul];omega
 have AKO:KI.size=n*r.n:=by rw[←AR5,f2,wC]
 obtain⟨Fs0,hB1,Xx⟩:=k2.boxes;simp only[ANI]at Xx;have how:Ow w' E'.S (d+1) (.sl r) [.slice (some ⟨w.heap.size,0,none⟩) rows.length n] rows (w.heap.size::Fs.flatten):=by
  refine dx (css:=css) (ex:=[]) new (by simpa using f2) (by omega) (by omega) (by omega) (Wa _) (by omega) fun k cs y G q1 q2 q3=> ?_
  have TQ:∀c∈G,c∈Fs.flatten:=fun c hc=>AQP.2 ⟨G,AO9 q3,hc⟩
  exact EO (fun _ h=>h) (fun c hc=>Ir (Xx.cX c (Xx.st c hc))) (fun c hc=>Ir (Xx.lt c (by simp only[AOO];exact .inr (TQ c hc)))) (by simpa using c3 k cs y G q1 q2 q3)
 rw[b3]at how;obtain⟨r1,r2,r3⟩:=Tg h k2 (w':=w') (d:=d+1) (by omega) how (by
   intro c hc;rcases APr.1 hc with rfl|hc
   ·exact .inr (APM _)
   ·exact .inl hc) (by
   refine AS8.2 ⟨fun hc=> ?_,(AOA.1 Xx.nodup).2.1⟩;have:=Xx.lt w.heap.size (by simp only[AOO];exact .inr hc);omega) (by
   intro c hc;rcases APr.1 hc with rfl|hc
   ·simp[w']
   ·have:=Xx.lt c (by simp only[AOO];exact .inr hc)
    simp[w'];omega) (fun c hc _=>Ir hc) ⟨rfl,rfl,rfl,by simp[w']⟩
 refine⟨_,_,_,_,_,.inl ?_,r1,r3,r2.any,rfl,e⟩;have Xy: ¬(n*r.n>2^24):=by
  have:n*r.n≤1024*1024:=Nat.mul_le_mul hn hrn;omega
 simp only[execOp,ho,Instr.buildSlice,Sem.run_bind,BR hu,Result.andThen_ok,sizeOf,typeInfo,run_program,i1,Sem.run_pure,i2,hs,Xy,APB];by_cases h0:n*r.n=0
 ·have hz0:zero= #[]:=by simp only[zero,ALC h0]
  rw[hz0]at f1;simp only[h0,AQV,Sem.run_bind,Sem.run_pure,Result.andThen_ok];rw[h0]at f1;simp only[f1,newRow,Sem.run_bind,run_newObj,Result.andThen_ok,Sem.run_pure];rfl
 ·have hz0:zero=z.cells:=by simp only[zero,ALG h0]
  rw[hz0]at f1;simp only[h0,APB,Sem.run_bind,zeroValue,typeInfo,run_program,Result.andThen_ok,i1,Sem.run_pure,i4];simp only[f1,newRow,Sem.run_bind,run_newObj,Result.andThen_ok,Sem.run_pure];rfl
end
end Go.Fw
end
section
namespace Go.Fw
theorem ag(w:World)(b o:Nat)(v:Value):(w.setCell ⟨b,o,none⟩ v).heap=w.heap.modify b fun
 | .cells c elem frozen=> .cells (c.setIfInBounds o v) elem frozen
 |o=>o:=rfl
theorem FU:∀(vs:List Value) (o:Nat) (w:World) (b:Nat) (arr:Array Value) (ty:TypeId) (fr:ABj),w.heap[b]? =some (.cells arr ty fr)→
  (w.setCells b o vs).heap[b]? =some (.cells (FC arr o vs) ty fr)
 |[],_,_,_,_,_,_,h=>h
 |v::l,o,w,b,arr,ty,fr,h=>by
  simp only[World.setCells,FC];refine FU l (o+1) _ b _ ty fr ?_
  rw[ag,Array.getElem?_modify,ALC rfl,h];rfl
theorem DR:∀(vs:List Value) (o:Nat) (w:World) (b:Nat),(w.setCells b o vs).heap.size=w.heap.size
 |[],_,_,_=>rfl
 |v::l,o,w,b=>by
  simp only[World.setCells];rw[DR l,ag,Array.size_modify]
theorem DM:∀(vs:List Value) (o:Nat) (w:World) (b c:Nat),c≠b→(w.setCells b o vs).heap[c]? =w.heap[c]?
 |[],_,_,_,_,_=>rfl
 |v::l,o,w,b,c,h=>by
  simp only[World.setCells];rw[DM l _ _ _ _ h,ag,Array.getElem?_modify,ALG (fun e=>h e.symm)]
theorem Bw:∀(vs:List Value) (o:Nat) (w:World) (b:Nat),Grown w (w.setCells b o vs)
 |[],_,_,_=>⟨rfl,rfl,rfl,APM _⟩
 |v::l,o,w,b=>by
  have:=Bw l (o+1) (w.setCell ⟨b,o,none⟩ v) b;refine⟨this.os,this.tape,this.output,?_⟩;rw[DR];omega
theorem V7{arr:Array Value}:∀{l:List Value} {o j:Nat},o+l.length≤arr.size→(FC arr o l)[j]? =if o≤j∧j<o+l.length then l[j-o]? else arr[j]?:=by
 intro l
 induction l generalizing arr with
 |nil=>intro o j _;rw[ALG (fun hh=>by grind)];rfl
 |cons c l ih=>
  intro o j h;simp only[AN2]at h;simp only[FC];grind
theorem Kp{w:World}{b o:Nat}{arr:Array Value}{ty:TypeId}{fr:ABj}(h:w.heap[b]? =some (.cells arr ty fr)):w.cell? ⟨b,o,none⟩=arr[o]?:=by
 simp[World.cell?,h]
theorem N8{w:World}{b o:Nat}{vs:List Value}{arr:Array Value}{ty:TypeId}{fr:ABj}(h:w.heap[b]? =some (.cells arr ty fr))(hs:o+vs.length≤arr.size):BT (w.setCells b o vs) b o vs:=by
 intro j v hj;have hl:=(ALO.1 hj).1;rw[Kp (FU vs o w b arr ty fr h),V7 hs,ALC (by omega),show o+j-o=j by omega,hj]
theorem UH{w:World}{b b' o o':Nat}{vs cs:List Value}{arr:Array Value}{ty:TypeId}{fr:ABj}(hc:BT w b' o' cs)(h:w.heap[b]? =some (.cells arr ty fr))(hs:o+vs.length≤arr.size)
  (ha:b'≠b∨o'+cs.length≤o∨o+vs.length≤o'):BT (w.setCells b o vs) b' o' cs:=by
 intro j v hj;have hl:=(ALO.1 hj).1;by_cases hb:b' =b
 ·subst hb
  have:=hc j v hj;rw[Kp h]at this;rw[Kp (FU vs o w b' arr ty fr h),V7 hs,ALG (by omega),this]
 ·rw[World.cell?_of_block (a:=⟨b',o'+j,none⟩) (DM vs o w b b' hb)]
  exact hc j v hj
theorem UW{w:World}{b o n k:Nat}{arr:Array Value}{ty:TypeId}{fr:ABj}(h:w.heap[b]? =some (.cells arr ty fr))(hs:o+n≤arr.size)(hu:v_ fr (arr.size+k)):w.there b o n:=by
 intro j hj;refine⟨?_,?_⟩
 ·rw[Kp h]
  grind
 ·have:=hu (o+j) (by omega)
  grind[World.frozen?]
theorem k_{w:World}{S:Nat→Prop}:∀{r:Ty} {d:Nat} {cs:List Value} {y:r.D} {F:AAs},Ow w S d r cs y F→ ∀v∈cs,v.oneCell' =true
 | .int _,_,_,_,_,h,v,hv=>by simp only[Ow]at h;rw[h.1]at hv;simp at hv;subst hv;rfl
 | .bool,_,_,_,_,h,v,hv=>by simp only[Ow]at h;rw[h.1]at hv;simp at hv;subst hv;rfl
 | .str,_,_,_,_,h,v,hv=>by simp only[Ow]at h;rw[h.1]at hv;simp at hv;subst hv;rfl
 | .unit,_,_,_,_,h,v,hv=>by grind[Ow]
 | .sl _,0,_,_,_,h,v,hv=>by
  simp only[Ow,Rd]at h;obtain⟨⟨_,_,rfl,_⟩,_⟩:=h;simp at hv;subst hv;rfl
 | .sl _,_+1,_,_,_,h,v,hv=>by
  simp only[Ow]at h;obtain⟨_,_,rfl,_⟩:=h;simp at hv;subst hv;rfl
 | .cons _ _,_,_,_,_,h,v,hv=>by
  simp only[Ow]at h;obtain⟨u,l,F1,F2,rfl,_,h1,h2⟩:=h;rcases APr.1 hv with rfl|hv
  ·exact k_ h1 _ (by simp)
  ·exact k_ h2 _ hv
section
variable{P:Program} {w:World}
structure j5 (P:Program) (w:World) (size n:Nat) (x:Value) (news:List Value):Prop where
 len:∀w',(Builtin.lenOf x).run P w' = .ok n w'
 cells:∀w',w'.heap=w.heap→(Builtin.firstCells size n x).run P w' = .ok news.toArray w'
theorem fN{ts:Array TypeId}{t u ty e:TypeId}(uG:ts[0]? =some t)(uA:ts[1]? =some u){i:TypeInfo}{size:Nat}(ht:P.underlying t=some (.slice e))(hu:(∃e,P.underlying u=some (.slice e))∨P.underlying u=some .string)(hi:P.info? e=some i)(PQ:i.size=size)
  {b o VS ix n:Nat} {x:Value} {news:List Value} (hn:j5 P w size n x news) (TC:VS+n≤ix) (oc:w.there b (o+VS*size) news.length) (h1:∀v∈news,v.oneCell' =true):
  (Builtin.append_ ts ty #[.slice (some ⟨b,o,none⟩) VS ix,x]).run P w= .ok (.slice (some ⟨b,o,none⟩) (VS+n) ix) (w.setCells b (o+VS*size) news):=by
 subst PQ;have qE:=run_storeCells_cells (P:=P) b (o+VS*i.size) news 0 w (fun j hj=>by simpa using(oc j hj).1) (fun j hj=>by simpa using(oc j hj).2) h1;simp only[AQ2]at qE;have hl:=hn.len w;have hf:=hn.cells w rfl;rcases hu with⟨e',hu⟩|hu
 ·simp[Builtin.append_,uG,uA,run_underlying ht,run_underlying hu,sizeOf,typeInfo,hi,hl,TC,hf,Addr.add_eq,qE]
 ·simp[Builtin.append_,uG,uA,run_underlying ht,run_underlying hu,sizeOf,typeInfo,hi,hl,TC,hf,Addr.add_eq,qE]
theorem lr{ts:Array TypeId}{t u ty e:TypeId}(uG:ts[0]? =some t)(uA:ts[1]? =some u){i:TypeInfo}{size:Nat}(ht:P.underlying t=some (.slice e))(hu:(∃e,P.underlying u=some (.slice e))∨P.underlying u=some .string)(hi:P.info? e=some i)(PQ:i.size=size)
  {a:Option Addr} {x:Value} (hn:j5 P w size 0 x []):
  (Builtin.append_ ts ty #[.slice a 0 0,x]).run P w= .ok (.slice a 0 0) w:=by
 subst PQ;have hl:=hn.len w;have hf:=hn.cells w rfl;cases a with
 |none=>
  rcases hu with⟨e',hu⟩|hu
  ·simp[Builtin.append_,uG,uA,run_underlying ht,run_underlying hu,sizeOf,typeInfo,hi,hl,hf]
  ·simp[Builtin.append_,uG,uA,run_underlying ht,run_underlying hu,sizeOf,typeInfo,hi,hl,hf]
 |some a=>
  have qE:(storeCells (a.add (0*i.size)) [] 0).run P w= .ok () w:=rfl;rcases hu with⟨e',hu⟩|hu
  ·simp[Builtin.append_,uG,uA,run_underlying ht,run_underlying hu,sizeOf,typeInfo,hi,hl,hf,storeCells]
  ·simp[Builtin.append_,uG,uA,run_underlying ht,run_underlying hu,sizeOf,typeInfo,hi,hl,hf,storeCells]
theorem bg{ts:Array TypeId}{t u ty e:TypeId}(uG:ts[0]? =some t)(uA:ts[1]? =some u){i:TypeInfo}{z:Value}{size:Nat}(ht:P.underlying t=some (.slice e))(hu:(∃e,P.underlying u=some (.slice e))∨P.underlying u=some .string)(hi:P.info? e=some i)(hz:i.zero=some z)(PQ:i.size=size)
  {a:Option Addr} {VS ix n:Nat} {x:Value} {AUo news:List Value} (ho:∀w',w'.heap=w.heap→(Builtin.firstCells size VS (.slice a VS ix)).run P w' = .ok AUo.toArray w')
  (hn:j5 P w size n x news) (AS0:ix<VS+n) (h63:VS+n≤DA) (hby:i.bytes≤512):
  (Builtin.append_ ts ty #[.slice a VS ix,x]).run P w= .ok (.slice (some ⟨w.heap.size,0,none⟩) (VS+n) (grownCap w (VS+n) ix e))
   (w.drew.alloc (.cells (AUo.toArray++news.toArray++Builtin.zeroCells z.cells (grownCap w (VS+n) ix e-(VS+n))) e)):=by
 subst PQ;have hl:=hn.len w;have hf:=hn.cells w.drew rfl;have hfo:=ho w.drew rfl;have hno: ¬(VS+n≤ix):=by omega
 have hb:(VS+n)*i.bytes≤140737488355328:=by
  have:(VS+n)*i.bytes≤DA*512:=Nat.mul_le_mul h63 hby;grind[DA]
 have h48:=growslice_fits AS0 hb;have AUV: ¬(281474976710656<Builtin.nextslicecap (VS+n) ix*i.bytes):=by omega
 have AT0: ¬(9223372036854775807<((VS:Int)+(n:Int))):=by grind[DA]
 rcases hu with⟨e',hu⟩|hu
 ·simp[Builtin.append_,uG,uA,run_underlying ht,run_underlying hu,sizeOf,typeInfo,zeroValue,hi,hz,hl,hno,AT0,AUV,Question.forced,hf,hfo,newRow,grownCap]
  grind
 ·simp[Builtin.append_,uG,uA,run_underlying ht,run_underlying hu,sizeOf,typeInfo,zeroValue,hi,hz,hl,hno,AT0,AUV,Question.forced,hf,hfo,newRow,grownCap]
  grind
end
end Go.Fw
end
section
namespace Go.Fw
def FE(w:World)(S:Nat→Prop)(d:Nat)(r:Ty)(css:List (List Value))(rows:List r.D)(Fs:List AAs):Prop:=
 css.length=rows.length∧Fs.length=rows.length∧(∀c∈css,c.length=r.n)∧ ∀(i:Nat) cs y G,css[i]? =some cs→rows[i]? =some y→Fs[i]? =some G→Ow w S d r cs y G
theorem FE.mono{w w':World}{S S':Nat→Prop}{d:Nat}{r:Ty}{css:List (List Value)}{rows:List r.D}{Fs:List AAs}(h:FE w S d r css rows Fs)(hS:∀c,S c→S' c)(hw:∀c,S c→w'.heap[c]? =w.heap[c]?)
  (hF:∀c∈Fs.flatten,w'.heap[c]? =w.heap[c]?):FE w' S' d r css rows Fs:=
 ⟨h.1,h.2.1,h.2.2.1,fun i cs y G a b c=>EO hS hw (fun x hx=>hF x (AQP.2 ⟨G,AO9 c,hx⟩)) (h.2.2.2 i cs y G a b c)⟩
theorem FE.append{w:World}{S:Nat→Prop}{d:Nat}{r:Ty}{css AR_:List (List Value)}{rows Cx:List r.D}{Fs Fs':List AAs}(h:FE w S d r css rows Fs)(k:FE w S d r AR_ Cx Fs'):
  FE w S d r (css++AR_) (rows++Cx) (Fs++Fs'):=by
 refine⟨by simp[h.1,k.1],by simp[h.2.1,k.2.1],fun c hc=>(AOO.1 hc).elim (h.2.2.1 c) (k.2.2.1 c),fun i cs y G a b c=> ?_⟩;by_cases hi:i<rows.length
 ·rw[AOh (by rw[h.1];omega)]at a
  rw[AOh hi]at b;rw[AOh (by rw[h.2.1];omega)]at c;exact h.2.2.2 i cs y G a b c
 ·rw[APH (by rw[h.1];omega)]at a
  rw[APH (by omega)]at b;rw[APH (by rw[h.2.1];omega)]at c;rw[h.1]at a;rw[h.2.1]at c;exact k.2.2.2 _ cs y G a b c
theorem FE.weaken{w:World}{S:Nat→Prop}{d d':Nat}{r:Ty}{css:List (List Value)}{rows:List r.D}{Fs:List AAs}(h:FE w S d r css rows Fs)(hd:d'≤d):
  ∃(Gs:List AAs) (W:AAs),Fs.flatten.Perm (Gs.flatten++W)∧FE w (fun c=>S c∨c∈W) d' r css rows Gs:=by
 obtain⟨Gs,Ws,h1,h2,h3,h4⟩:=oL (R:=fun i G F W=> ∀cs y,css[i]? =some cs→rows[i]? =some y→Ow w (fun c=>S c∨c∈W) d' r cs y F) Fs 0 (fun i G hG=>by
  rw[AQu];have hi:=(ALO.1 hG).1;have h1:=h.1;have h2:=h.2.1;obtain⟨F,W,hp,ho⟩:=KE hd (h.2.2.2 i _ _ G (ALD (by omega)) (ALD (by omega)) hG);grind)
 refine⟨Gs,Ws.flatten,h3,h.1,h1.trans h.2.1,h.2.2.1,fun i cs y G a b c=> ?_⟩;have hi:=(ALO.1 c).1;have hw:Ws[i]? =some (Ws[i]'(by omega)):=ALD _;have hf:Fs[i]? =some (Fs[i]'(by omega)):=ALD _;have:=h4 i _ _ _ hf c hw cs y (by simp_all) (by simp_all);exact EO (fun x hx=>hx.imp id fun hx=>AQP.2 ⟨_,AO9 hw,hx⟩) (fun _ _=>rfl) (fun _ _=>rfl) this
theorem Hq{n:Nat}:∀{css:List (List Value)},(∀c∈css,c.length=n)→css.flatten.length=css.length*n
 |[],_=>by simp
 |c::l,h=>by simp[h c (by simp),Hq (css:=l) (fun c hc=>h c (by simp[hc])),Nat.succ_mul];omega
theorem FE.one{w:World}{S:Nat→Prop}{d:Nat}{r:Ty}{css:List (List Value)}{rows:List r.D}{Fs:List AAs}(h:FE w S d r css rows Fs):∀v∈css.flatten,v.oneCell' =true:=by
 intro v hv;obtain⟨c,hc,hv⟩:=AQP.1 hv;obtain⟨i,hi,rfl⟩:=AQS hc;have h1:=h.1;have h2:=h.2.1;exact k_ (h.2.2.2 i _ _ _ (ALD hi) (ALD (by omega)) (ALD (by omega))) v hv
theorem FE.flat{w:World}{B S:Nat→Prop}{d:Nat}{r:Ty}(hf:r.flat=true){css:List (List Value)}{rows:List r.D}(h1:css.length=rows.length)(h2:∀c∈css,c.length=r.n)
  (h3:∀(i:Nat) cs y,css[i]? =some cs→rows[i]? =some y→Rd w B r cs y):FE w S d r css rows (List.replicate rows.length []):=by
 refine⟨h1,by simp,h2,fun i cs y G a b c=> ?_⟩;grind[List.mem_of_getElem?,jA]
theorem BT.heap{w w':World}{b o:Nat}{cs:List Value}(h:BT w b o cs)(e:w'.heap=w.heap):BT w' b o cs:=h.of_block (by rw[e])
theorem Qb{P:Program}{w:World}{a:Option Addr}{n cap size:Nat}{css:List (List Value)}(hl:css.length=n)(hc:∀c∈css,c.length=size)
  (h:n=0∨ ∃b o,a=some ⟨b,o,none⟩∧BT w b o css.flatten):j5 P w size n (.slice a n cap) css.flatten:=by
 refine⟨fun w' =>rfl,fun w' e=> ?_⟩;have hlen:css.flatten.length=n*size:=by rw[Hq hc,hl]
 rcases h with rfl|⟨b,o,rfl,h⟩
 ·have:css=[]:=AP0 hl
  subst this;cases a with
  |none=>rfl
  |some a=>
   simp only[Builtin.firstCells,Nat.zero_mul,ASC];rfl
 ·simp only[Builtin.firstCells]
  rw[←hlen];exact Ll (h.heap e)
theorem ABO{P:Program}{w:World}{s:AA7}:j5 P w 1 s.length (.string ⟨s.toArray⟩) (s.map fun c=>[Value.int .u8 (c.toNat:Int)]).flatten:=by
 refine⟨fun w' =>rfl,fun w' _=> ?_⟩;have PQ:(⟨s.toArray⟩:ByteArray).size=s.length:=by rfl
 have e1:(⟨s.toArray⟩:ByteArray).extract 0 s.length=⟨s.toArray⟩:=by
  rw[←PQ];apply ByteArray.ext;simp
 simp only[Builtin.firstCells,e1,Sem.run_pure];have:(s.map fun c=>[Value.int .u8 (c.toNat:Int)]).flatten=s.map fun c=>Value.int .u8 (c.toNat:Int):=by
  have:=Xc (l:=s.map fun c=>Value.int .u8 (c.toNat:Int));grind[List.map_map,Function.comp_def]
 simp_all
theorem nC{w:World}{S:Nat→Prop}{d:Nat}{r:Ty}{v:Value}{rows:List r.D}{F:AAs}(h:Ow w S (d+1) (.sl r) [v] rows F):
  ∃a cap css Fs R,v= .slice a rows.length cap∧rows.length≤cap∧FE w S d r css rows Fs∧F.Perm (Fs.flatten++R)∧
   ((cap=0∧F=[])∨ ∃b o arr ty fr,a=some ⟨b,o,none⟩∧w.heap[b]? =some (.cells arr ty fr)∧o+cap*r.n≤arr.size∧v_ fr (arr.size+mk r)∧F=b::Fs.flatten∧BT w b o css.flatten):=by
 simp only[Ow]at h;obtain⟨a,cap,e,hle,h⟩:=h;simp only[APx,AQc]at e;subst e;rcases h with⟨h,rfl⟩|⟨b,o,arr,ty,fr,Fs,rfl,hb,PQ,hu,rfl,hFl,hr⟩
 ·have:rows=[]:=AP0 (by omega)
  subst this;exact⟨a,cap,[],[],[],rfl,hle,⟨rfl,rfl,by simp,fun i cs y G h=>by simp at h⟩,by simp,.inl ⟨h,rfl⟩⟩
 ·
  have key:∀(n o:Nat) (ys:List r.D) (Fs:List AAs),ys.length=n→Fs.length=n→(∀(i:Nat) (y:r.D) (G:AAs),ys[i]? =some y→Fs[i]? =some G→ ∃cs,cs.length=r.n∧BT w b (o+i*r.n) cs∧Ow w S d r cs y G)→
    ∃css,FE w S d r css ys Fs∧BT w b o css.flatten:=by
   intro n
   induction n with
   |zero=>
    intro o ys Fs h1 h2 _;obtain rfl:=AP0 h1;obtain rfl:=AP0 h2;exact⟨[],⟨rfl,rfl,by simp,fun i cs y G h=>by simp at h⟩,fun _ _ h=>by simp at h⟩
   |succ n ih=>
    intro o ys Fs h1 h2 hh;obtain⟨y,ys,rfl⟩:=ATW h1;obtain⟨G,Fs,rfl⟩:=ATW h2;obtain⟨cs,c1,c2,c3⟩:=hh 0 y G rfl rfl;obtain⟨css,d1,d2⟩:=ih (o+r.n) ys Fs (by simp_all) (by simp_all) (fun i z G hz hG=>by
     obtain⟨cs,e1,e2,e3⟩:=hh (i+1) z G (by simp_all) (by simp_all);grind)
    refine⟨cs::css,⟨by simp[d1.1],by omega,fun c hc=> ?_,fun i dR y' G' a b c=> ?_⟩,?_⟩
    ·rcases APr.1 hc with rfl|hc
     ·omega
     ·exact d1.2.2.1 c hc
    ·cases i with
     |zero=>simp_all
     |succ i=>exact d1.2.2.2 i dR y' G' (by simp_all) (by simp_all) (by simp_all)
    grind[List.flatten_cons,BT.append]
  obtain⟨css,k1,k2⟩:=key rows.length o rows Fs rfl hFl hr;refine⟨_,cap,css,Fs,[b],rfl,hle,k1,?_,.inr ⟨b,o,arr,ty,fr,rfl,hb,PQ,hu,rfl,k2⟩⟩;grind
theorem kh{w:World}{S:Nat→Prop}:∀{r:Ty} {cs:List Value} {x:r.D},Rd w S r cs x→Ow w S 0 r cs x []
 | .cons c r,cs,x,hr=>by
  simp only[Rd]at hr;obtain⟨v,l,rfl,h1,h2⟩:=hr;simp only[Ow];exact⟨v,l,[],[],rfl,rfl,kh h1,kh h2⟩
 | .unit,_,_,hr=>by grind[Rd,Ow]
 | .int k,_,_,hr=>by grind[Rd,Ow]
 | .bool,_,_,hr=>by grind[Rd,Ow]
 | .str,_,_,hr=>by grind[Rd,Ow]
 | .sl q,_,_,hr=>by simp only[Ow];simp_all
theorem fJ{P:Program}{E:Env}{w:World}{vw bx:List Bx}{G:AAs}(h:C7 E w vw bx G)(hw:FG bx vw){x:AV}{v:Value}(hv:VR E w vw x v){r:Ty}{rows:List r.D}{Qd:List Bx}{d:Nat}
  (e:mv bx x=some ⟨r,rows,Qd,d⟩):1≤d∧ ∃E' F css Fs R,G6 E w vw bx G E' Qd F∧F.Perm (List.flatten Fs++R)∧FE w E'.S (d-1) r css rows Fs∧j5 P w r.n rows.length v css.flatten:=by
 have plain:∀{B:Nat→Prop} {ys:List r.D},r.flat=true→Rd w B (.sl r) [v] ys→ ∀S:Nat→Prop,∃css,FE w S 8 r css ys (List.replicate ys.length [])∧j5 P w r.n ys.length v css.flatten:=by
  intro B ys hf hr S;simp only[Rd]at hr;obtain⟨a,cap,e1,hle,hr⟩:=hr;simp only[APx,AQc]at e1;subst e1;rcases hr with hr|⟨b,o,rfl,_,hr⟩
  ·have:ys=[]:=AP0 hr
   subst this;exact⟨[],⟨rfl,rfl,by simp,fun i cs y G h=>by simp at h⟩,Qb (css:=[]) rfl (by simp) (.inl rfl)⟩
  ·obtain⟨css,c1,c2,c3,c4⟩:=nX hr
   exact⟨css,FE.flat hf c1 c2 c4,Qb c1 c2 (.inr ⟨b,o,rfl,c3⟩)⟩
 have done:∀{B:Nat→Prop} {ys:List r.D},r.flat=true→Rd w B (.sl r) [v] ys→rows=ys→Qd=bx→d=9→
   1≤d∧ ∃E' F css Fs R,G6 E w vw bx G E' Qd F∧F.Perm (List.flatten Fs++R)∧FE w E'.S (d-1) r css rows Fs∧j5 P w r.n rows.length v css.flatten:=by
  intro B ys hf hr e1 e2 e3;subst e1 e2 e3;obtain⟨css,k1,k2⟩:=plain hf hr E.S;exact⟨by omega,E,[],css,_,[],G6.refl h,by simp,k1,k2⟩
 unfold mv at e;split at e
 ·rename_i s
  simp only[ALL,ANo]at e;obtain⟨rfl,e⟩:=e;have e:=AQJ e;simp only[AQD]at e;obtain⟨rfl,rfl,rfl⟩:=e;have X8:=Ww hv;subst X8;refine⟨by omega,E,[],s.map fun c=>[Value.int .u8 (c.toNat:Int)],_,[],G6.refl h,?_,FE.flat (B:=fun _=>False) rfl (by simp) (by simp[Ty.n]) (fun i cs y a b=> ?_),?_⟩
  ·simp
  ·simp only[AQN,ALN]at a b
   obtain⟨c1,z1,rfl⟩:=a;obtain⟨c2,z2,rfl⟩:=b;grind[Rd]
  grind[ABO,Ty.n]
 ·rename_i s q ys
  split at e
  ·rename_i hf
   simp only[ALL,ANo]at e;obtain⟨rfl,e⟩:=e;have e:=AQJ e;simp only[AQD]at e;obtain⟨rfl,rfl,rfl⟩:=e;exact done hf hv rfl rfl rfl
  ·split at e
   case isFalse=>cases e
   rename_i hs;simp only[ALL,ANo]at e;obtain⟨rfl,e⟩:=e;have e:=AQJ e;simp only[AQD]at e;obtain⟨rfl,rfl,rfl⟩:=e;subst hs;simp only[VR,AQV]at hv;simp only[Rd]at hv;obtain⟨a,cap,e1,hle,hr⟩:=hv;simp only[APx,AQc]at e1;subst e1;have key:∃css:List (List Value),List.length css=ys.length∧(∀c∈css,c.length=q.n)∧(∀(i:Nat) cs y,css[i]? =some cs→ys[i]? =some y→Rd w E.S q cs y)∧j5 P w q.n ys.length (.slice a ys.length cap) css.flatten:=by
    rcases hr with hr|⟨b,o,rfl,_,hr⟩
    ·have:ys=[]:=AP0 hr
     subst this;exact⟨[],rfl,by simp,fun i cs y h=>by simp at h,Qb (css:=[]) rfl (by simp) (.inl rfl)⟩
    ·obtain⟨css,c1,c2,c3,c4⟩:=nX hr
     exact⟨css,c1,c2,c4,Qb c1 c2 (.inr ⟨b,o,rfl,c3⟩)⟩
   obtain⟨css,c1,c2,c3,c4⟩:=key;refine⟨APM _,E,[],css,List.replicate ys.length [],[],G6.refl h,by simp,⟨c1,by simp,c2,fun i cs y G a b c=> ?_⟩,c4⟩;grind[List.mem_of_getElem?,kh]
 ·rename_i b
  split at e
  case h_2=>cases e
  rename_i d0 q ys hb;split at e
  ·rename_i hf
   simp only[ALL,ANo]at e;obtain⟨rfl,e⟩:=e;have e:=AQJ e;simp only[AQD]at e;obtain⟨rfl,rfl,rfl⟩:=e;obtain⟨Fs,hB,hS⟩:=h;exact done hf (Z7 hw hB hS.st hv (q:=q) (ys:=ys) (by simp[NU,hb,G3])) rfl rfl rfl
  ·simp only[ALL,ANo]at e
   obtain⟨rfl,e⟩:=e;have e:=AQJ e;simp only[AQD]at e;obtain⟨rfl,rfl,rfl⟩:=e;obtain⟨F,⟨hd,ho⟩,hB⟩:=h.take hb;have hvw:=YW hw hb;simp only[VR,hvw,C4,ALL]at hv;obtain⟨_,_,_,rfl⟩:=hv;obtain⟨m,rfl⟩:∃m,d0=m+1:=⟨d0-1,by omega⟩;obtain⟨a,cap,css,Fs,R,e1,hle,cI,hp,hcase⟩:=nC ho;refine⟨hd,E,F,css,Fs,R,⟨Le.refl _,by simp,fun n B hn=> ?_,hB⟩,hp,cI,?_⟩
   ·grind
   ·rw[e1]
    refine Qb cI.1 cI.2.2.1 ?_
    grind
 ·rename_i b p _
  split at e
  case h_2=>cases e
  rename_i d0 q ys hb;simp only[ALe]at e;obtain⟨⟨q',zs⟩,e1,e⟩:=e;dsimp only at e;split at e
  case isFalse=>cases e
  rename_i hf;simp only[ALL,ANo]at e;obtain⟨rfl,e⟩:=e;have e:=AQJ e;simp only[AQD]at e;obtain⟨rfl,rfl,rfl⟩:=e;obtain⟨Fs,hB,hS⟩:=h;exact done hf (Z7 hw hB hS.st hv (q:=q') (ys:=zs) (by simp[NU,hb,e1])) rfl rfl rfl
 ·rename_i b p off n
  split at e
  case h_2=>cases e
  rename_i d0 q ys hb;simp only[ALe]at e;obtain⟨⟨q',zs⟩,e1,e⟩:=e;dsimp only at e;split at e
  case isFalse=>cases e
  rename_i hf;simp only[ALL,ANo]at e;obtain⟨rfl,e⟩:=e;have e:=AQJ e;simp only[AQD]at e;obtain⟨rfl,rfl,rfl⟩:=e;obtain⟨Fs,hB,hS⟩:=h;exact done hf (Z7 hw hB hS.st hv (q:=q') (ys:=(zs.drop off).take n) (by simp[NU,hb,e1])) rfl rfl rfl
 simp_all
theorem fT{E:Env}{w:World}{vw bx:List Bx}{G:AAs}(h:C7 E w vw bx G)(hw:FG bx vw){x:AV}{v:Value}(hv:VR E w vw x v){r:Ty}{rows:List r.D}{Qd:List Bx}{d:Nat}
  (e:mu bx x=some ⟨r,rows,Qd,d⟩):1≤d∧ ∃F1 F2,G6 E w vw bx G E Qd (F1++F2)∧Ow w E.S d (.sl r) [v] rows F1:=by
 have tk:∀{b d0:Nat} {q:Ty} {ys:List q.D},bx[b]? =some (.sl d0 q ys)→ ∃F,1≤d0∧Ow w E.S d0 (.sl q) [E.Hy b] ys F∧G6 E w vw bx G E (bx.set b .dead) F:=by
  intro b d0 q ys hb;obtain⟨F,⟨hd,ho⟩,hB⟩:=h.take hb;refine⟨F,hd,ho,⟨Le.refl _,by simp,fun n B hn=> ?_,hB⟩⟩;grind
 unfold mu at e;split at e
 ·rename_i b
  split at e
  case h_2=>cases e
  rename_i d0 q ys hb;simp only[ALL,ANo]at e;obtain⟨rfl,e⟩:=e;have e:=AQJ e;simp only[AQD]at e;obtain⟨rfl,rfl,rfl⟩:=e;obtain⟨F,hd,ho,hT⟩:=tk hb;have hvw:=YW hw hb;simp only[VR,hvw,C4,ALL]at hv;obtain⟨_,_,_,rfl⟩:=hv;exact⟨hd,F,[],by simp_all,ho⟩
 ·rename_i b off n
  split at e
  case h_2=>cases e
  rename_i d0 q ys hb;simp only[ALL,ANo]at e;obtain⟨rfl,e⟩:=e;have e:=AQJ e;simp only[AQD]at e;obtain⟨rfl,rfl,rfl⟩:=e;obtain⟨F,hd,ho,hT⟩:=tk hb;have hvw:=YW hw hb;simp only[VR,hvw,C4,ALL]at hv;obtain⟨_,_,q',zs,a,len,cap,h1,h2,h3,rfl⟩:=hv;simp only[G3,ALL,ANo]at h1;obtain⟨rfl,h1⟩:=h1;obtain rfl:=AQJ h1;rw[h3]at ho;obtain⟨m,rfl⟩:∃m,d0=m+1:=⟨d0-1,by omega⟩;obtain⟨F1,F2,hp,wB⟩:=ABQ ho h2;exact⟨hd,F1,F2,⟨hT.le,hT.len,hT.within,hT.boxes.perm (ARP _ hp)⟩,wB⟩
 simp_all
end Go.Fw
end
section
namespace Go.Fw
theorem fS{P:Program}{w:World}{a:Option Addr}{n cap size:Nat}{css:List (List Value)}(hl:css.length=n)(hc:∀c∈css,c.length=size)
  (h:n=0∨ ∃b o,a=some ⟨b,o,none⟩∧BT w b o css.flatten):∀w',w'.heap=w.heap→(Builtin.firstCells size n (.slice a n cap)).run P w' = .ok css.flatten.toArray w':=
 (Qb (P:=P) (cap:=cap) hl hc h).cells
theorem ZN{z:Array Value}{n:Nat}:(Builtin.zeroCells z n).size=n*z.size:=size_zeroCells z n
section
variable{Y:Type} {P:Program} {T:Jm} (hT:En P T) {o:Oper} {E:Env} {σ:St} {a:Act} {w:World} {k:K Y} {y:Y}
include hT
theorem lL(h:Rel E σ a w){E2:Env}{aQ:List Bx}{F Fd R:AAs}{t u ty:TypeId}{ts:Array TypeId}(uG:ts[0]? =some t)(uA:ts[1]? =some u)
  (hu:(∃e,P.underlying u=some (.slice e))∨P.underlying u=some .string) {m:Nat} {r:Ty} (Uj:T.NP t r=true)
  (kT:G6 E w σ.bx σ.bx [] E2 aQ F) {v1 v2:Value} {drows SA:List r.D} {css:List (List Value)} {Fs:List AAs}
  (ho:Ow w E2.S (m+1) (.sl r) [v1] drows Fd) (hs:FE w E2.S m r css SA Fs) (hn:j5 P w r.n SA.length v2 css.flatten) (hp:F.Perm (Fd++Fs.flatten++R)) (Xy:drows.length+SA.length≤DA):
  ∃v w' E',(Builtin.append_ ts ty #[v1,v2]).run P w= .ok v w'∧Rel E' { σ with bx:=aQ++[.sl (m+1) r (drows++SA)] } a w'∧RP [] E σ.bx w E' (aQ++[.sl (m+1) r (drows++SA)]) w'∧
   XR E' w' (aQ++[.sl (m+1) r (drows++SA)]) (.c (.ref aQ.length [])) v:=by
 obtain⟨e,ti,hut,Uy,hs1,hby,hrow⟩:=Ka hT Uj;obtain⟨i,z,i1,i2,i3,i4,i5,hg⟩:=Wc hT Uy hrow;rw[hs1]at i2;obtain⟨Fs0,hB1,Xx⟩:=kT.boxes;simp only[ANI]at Xx;have hdF:∀c∈Fd,c∈F:=fun c hc=>hp.mem_iff.2 (by simp[hc])
 have hsF:∀c∈Fs.flatten,c∈F:=fun c hc=>hp.mem_iff.2 (by simp_all)
 have ndF:=(AOA.1 (hp.nodup_iff.1 (AOA.1 Xx.nodup).2.1)).1;have ltF:∀c∈F,c<w.heap.size:=fun c hc=>Xx.lt c (by simp_all)
 have AZY:∀c∈F,¬E2.S c:=fun c hc hS=>Xx.free c (by simp_all) (Xx.st c hS)
 have ho0:=ho;obtain⟨ad,cap,dcss,Fs1,R1,rfl,hle,hd,hp1,hcase⟩:=nC ho;have YF:css.flatten.length=SA.length*r.n:=by rw[Hq hs.2.2.1,hs.1]
 have hdl:dcss.flatten.length=drows.length*r.n:=by rw[Hq hd.2.2.1,hd.1]
 by_cases TC:drows.length+SA.length≤cap
 ·rcases hcase with⟨h0,hF0⟩|⟨b,of,arr,ty0,fr,rfl,hb,PQ,hunf,rfl,hc⟩
  ·
   have hd0:drows=[]:=AP0 (by omega);have hs0:SA=[]:=AP0 (by omega);subst hd0 hs0;have hc0:css=[]:=AP0 hs.1;subst hc0 h0;have jl:=lr (P:=P) (w:=w) (ty:=ty) uG uA hut hu i1 i2 (a:=ad) (x:=v2) (by simp_all);obtain⟨r1,r2,r3⟩:=Tg h kT (w':=w) (d:=m+1) (by omega) ho0 (fun c hc=> .inl (hdF c hc)) (AOA.1 ndF).1 (fun c hc=>ltF c (hdF c hc)) (fun _ _ _=>rfl) ⟨rfl,rfl,rfl,APM _⟩;grind
  ·
   have dW:of+drows.length*r.n+css.flatten.length≤arr.size:=by
    have:(drows.length+SA.length)*r.n≤cap*r.n:=AOr _ TC;grind
   have jl:=fN (P:=P) (w:=w) (ty:=ty) uG uA hut hu i1 i2 (b:=b) (o:=of) hn TC (UW hb dW hunf) hs.one;have hbF:b∈F:=hdF b (by simp);have cq:∀c,c∈Fs1.flatten∨c∈Fs.flatten∨E2.S c→c≠b:=by
    grind
   have cP:∀c,c≠b→(w.setCells b (of+drows.length*r.n) css.flatten).heap[c]? =w.heap[c]?:=fun c hc=>DM _ _ _ _ _ hc
   have ui:=hd.mono (w':=w.setCells b (of+drows.length*r.n) css.flatten) (S':=E2.S) (fun _ h=>h) (fun c hc=>cP c (cq c (.inr (.inr hc)))) (fun c hc=>cP c (cq c (.inl hc)));have hs':=hs.mono (w':=w.setCells b (of+drows.length*r.n) css.flatten) (S':=E2.S) (fun _ h=>h) (fun c hc=>cP c (cq c (.inr (.inr hc)))) (fun c hc=>cP c (cq c (.inr (.inl hc))));have gk:=ui.append hs';have AB3:BT (w.setCells b (of+drows.length*r.n) css.flatten) b of (dcss++css).flatten:=by
    grind[List.flatten_append,BT.append,UH,N8]
   have how:Ow (w.setCells b (of+drows.length*r.n) css.flatten) E2.S (m+1) (.sl r) [.slice (some ⟨b,of,none⟩) (drows.length+SA.length) cap] (drows++SA) (b::(Fs1++Fs).flatten):=by
    simp only[Ow];refine⟨_,cap,by rw[AOc],by simp_all,.inr ⟨b,of,_,ty0,fr,Fs1++Fs,rfl,FU _ _ _ _ _ _ _ hb,by rw[FT];omega,by rw[FT];omega,rfl,gk.2.1,fun j q G hq hG=> ?_⟩⟩;have hj:=(ALO.1 hq).1;have h1:=gk.1;have wI:j<(dcss++css).length:=by omega
    refine⟨(dcss++css)[j],gk.2.2.1 _ (AMx _),fun x u hx=> ?_,gk.2.2.2 j _ _ _ (ALD wI) hq hG⟩;have hxl:=(ALO.1 hx).1;rw[gk.2.2.1 _ (AMx _)]at hxl;have:=Ye (n:=r.n) (css:=dcss++css) (ex:=[]) (i:=j) gk.2.2.1 (ALD wI) hxl;rw[ANI,hx]at this;have:=AB3 _ _ this;grind
   have nG:(b::(Fs1++Fs).flatten)=(b::Fs1.flatten)++Fs.flatten:=by simp
   rw[nG]at how;obtain⟨r1,r2,r3⟩:=Tg h kT (w':=w.setCells b (of+drows.length*r.n) css.flatten) (d:=m+1) (by omega) how (fun c hc=> .inl ((AOO.1 hc).elim (hdF c) (hsF c))) ndF
    (fun c hc=>by grind[DR]) (fun c hc hcF=>cP c (fun e=>hcF (e▸hbF))) (Bw _ _ _ _)
   grind
 ·
  have hold:drows.length=0∨ ∃b o,ad=some ⟨b,o,none⟩∧BT w b o dcss.flatten:=by
   grind
  have jl:=bg (P:=P) (w:=w) (ty:=ty) uG uA hut hu i1 i4 i2 (fS (P:=P) (cap:=cap) hd.1 hd.2.2.1 hold) hn (by omega) Xy (by omega);have wK:=grownCap_ge w (drows.length+SA.length) cap e
  generalize hgc:grownCap w (drows.length+SA.length) cap e=gc at jl wK
  let arr:Array Value:=dcss.flatten.toArray++css.flatten.toArray++Builtin.zeroCells z.cells (gc-(drows.length+SA.length))
  have cO:arr.toList=(dcss++css).flatten++(Builtin.zeroCells z.cells (gc-(drows.length+SA.length))).toList:=by simp[arr]
  have hzl:z.cells.size=r.n:=by rw[←AR5,i5,Gm]
  have AWj:arr.size=gc*r.n:=by
   simp only[arr,AUR,AUZ,ZN,hzl,YF,hdl,←AQm];simp_all
  let w':=w.drew.alloc (.cells arr e)
  have new:w'.heap[w.heap.size]? =some (.cells arr e):=by
   show(w.heap.push (.cells arr e))[w.heap.size]? =_
   simp
  have ACJ:∀c,c<w.heap.size→w'.heap[c]? =w.heap[c]?:=fun c hc=>Ir (w:=w) (o:= .cells arr e) hc
  have hR1:∀c∈Fs1.flatten,c∈Fd:=fun c hc=>hp1.mem_iff.2 (by simp_all)
  have ui:=hd.mono (w':=w') (S':=E2.S) (fun _ h=>h) (fun c hc=>ACJ c (Xx.cX c (Xx.st c hc))) (fun c hc=>ACJ c (ltF c (hdF c (hR1 c hc))));have hs':=hs.mono (w':=w') (S':=E2.S) (fun _ h=>h) (fun c hc=>ACJ c (Xx.cX c (Xx.st c hc))) (fun c hc=>ACJ c (ltF c (hsF c hc)));have gk:=ui.append hs';have how:Ow w' E2.S (m+1) (.sl r) [.slice (some ⟨w.heap.size,0,none⟩) (drows++SA).length gc] (drows++SA) (w.heap.size::(Fs1++Fs).flatten):=
   dx new cO gk.1 (by simp_all) (by omega) (Wa _) gk.2.1 gk.2.2.2
  rw[AOc]at how;have TQ:∀c∈(Fs1++Fs).flatten,c∈Fd++Fs.flatten:=by
   grind
  have nd1:(Fs1++Fs).flatten.Nodup:=by
   grind
  have Aby:∀c∈(Fs1++Fs).flatten,c∈F:=fun c hc=>(AOO.1 (TQ c hc)).elim (hdF c) (hsF c)
  obtain⟨r1,r2,r3⟩:=Tg h kT (w':=w') (d:=m+1) (by omega) how (by
    simp_all) (by
    grind) (by
    grind) (fun c hc _=>ACJ c hc) ⟨rfl,rfl,rfl,by simp[w']⟩
  grind
end
end Go.Fw
end
section
namespace Go.Fw
theorem W4{α β:Type}{args:Array α}{f:α→β}{x y:β}(h:args.toList.map f=[x,y]):∃a b,args= #[a,b]∧f a=x∧f b=y:=by
 obtain⟨l⟩:=args
 match l,h with
 |[a,b],h=>grind
theorem Xe{α β:Type}{args:Array α}{f:α→β}{x:β}(h:args.toList.map f=[x]):∃a,args= #[a]∧f a=x:=by
 obtain⟨l⟩:=args;simp_all
section
variable{Y:Type} {P:Program} {T:Jm} (hT:En P T) {o:Oper} {E:Env} {σ:St} {a:Act} {w:World} {k:K Y} {y:Y}
include hT
theorem vm(h:Rel E σ a w){c:Call}{x1 x2:XV}(ho:o.op= .call c)(hc:c.callee= .builtin .append)(IP:c.args.toList.map σ.ev=[x1,x2])(e:eL T c.argTypes σ x1 x2 k=some y):Lr P o E σ a w k y:=by
 obtain⟨o1,o2,hargs',rfl,rfl⟩:=W4 IP;have cJ:=h.ev o1;have aO:=h.ev o2;have exec:∀{v w'},(Builtin.append_ c.argTypes o.type #[a.eval o1,a.eval o2]).run P w= .ok v w'→(execOp a.eval o).run P w= .ok (.value v) w':=by
  intro v w' hr;simp only[execOp,ho,resolve,hc,hargs',invoke,builtin,Sem.run_bind,Sem.run_pure,Result.andThen_ok,List.map_toArray,ARf,AS4,hr]
 unfold eL at e;split at e
 case h_2=>cases e
 rename_i t u uG uA;split at e
 case isFalse=>cases e
 rename_i hu;have hu':(∃e,P.underlying u=some (.slice e))∨P.underlying u=some .string:=by
  rw[AQd]at hu;grind[kg,XS]
 split at e
 ·
  rename_i z hz1 hz2;rw[hz1]at cJ;rw[hz2]at aO;simp only[ALe]at e;obtain⟨⟨r,rows,Qd,d⟩,e1,e⟩:=e;dsimp only at e;split at e
  case isFalse=>cases e
  rename_i Uj;split at e
  case isFalse=>cases e
  rename_i Xy;obtain⟨hd,E',F,css,Fs,R,kT,hp,hs,hn⟩:=fJ (P:=P) h.bx (FG.refl _) aO e1;obtain⟨m,rfl⟩:∃m,d=m+1:=⟨d-1,by omega⟩;have AVq:a.eval o1= .slice none 0 0:=cJ;obtain⟨v,w',E3,hr,r1,r2,r3⟩:=lL hT h (ty:=o.type) uG uA hu' Uj kT (v1:= .slice none 0 0) (Fd:=[]) (drows:=[]) p9 hs hn (R:=R) (by simp_all) (by simp_all);rw[←AVq]at hr;simp only[APq]at r1 r3;exact⟨_,_,_,_,_,.inl (exec hr),r1,r3,r2.any,rfl,e⟩
 ·rename_i z1 z2 hnn hz1 hz2
  rw[hz1]at cJ;rw[hz2]at aO;simp only[ALe]at e;obtain⟨⟨r,rows,jV,d⟩,e1,e⟩:=e;dsimp only at e;split at e
  case isFalse=>cases e
  rename_i Uj;simp only[ALe]at e;obtain⟨⟨q,srows0,aQ,ds⟩,e2,SA,e3,e⟩:=e;dsimp only at e e3;obtain⟨hqr,e4⟩:=ID e3;subst hqr;subst e4;dsimp only at e;split at e
  case isFalse=>cases e
  rename_i Xy;obtain⟨hd,F1,F2,k1,ho1⟩:=fT h.bx (FG.refl _) cJ e1;obtain⟨hds,E',F3,css,Fs,R,k2,hp,hs,hn⟩:=fJ (P:=P) k1.boxes ((FG.refl _).om k1) aO e2;obtain⟨m,hm⟩:∃m,min d ds=m+1:=⟨min d ds-1,by omega⟩;rw[hm]at e;obtain⟨A,W1,p1,ho1'⟩:=KE (d:=m+1) (by omega) ho1;obtain⟨Gs,W2,p2,hs'⟩:=hs.weaken (d':=m) (by omega);have hB:=k2.boxes.perm (G':=(A++Gs.flatten++(R++F2))++(W1++W2)++[]) (by
   grind)
  obtain⟨hle,Xx⟩:=hB.share;have kT:G6 E w σ.bx σ.bx [] _ aQ (A++Gs.flatten++(R++F2)):=⟨(k1.le.trans k2.le).trans hle,k2.len.trans k1.len,fun b B hb=>(k2.within b B hb).elim .inl (k1.within b B),Xx⟩;have ho2:Ow w (fun c=>E'.S c∨c∈W1++W2) (m+1) (.sl q) [a.eval o1] rows A:=
   EO (fun c hc=>hc.imp (k2.le.S c) (by simp_all)) (fun _ _=>rfl) (fun _ _=>rfl) ho1'
  have hs2:FE w (fun c=>E'.S c∨c∈W1++W2) m q css srows0 Gs:=hs'.mono (fun c hc=>hc.imp id (by simp_all)) (fun _ _=>rfl) (fun _ _=>rfl);obtain⟨v,w',E3,hr,r1,r2,r3⟩:=lL hT h (ty:=o.type) uG uA hu' Uj kT ho2 hs2 hn (AVF _) Xy;exact⟨_,_,_,_,_,.inl (exec hr),r1,r3,r2.any,rfl,e⟩
 simp_all
end
end Go.Fw
end
section
namespace Go.Fw
theorem mT{P:Program}{w:World}{b o:Nat}{ty:TypeId}{v:Value}(ht:w.there b o v.cells.toList.length)(hi:(P.info? ty).map (·.size)=some v.cells.toList.length)(h1:∀u∈v.cells.toList,u.oneCell' =true):
  (Instr.storeAt ty (.pointer (some ⟨b,o,none⟩)) v).run P w= .ok () (w.setCells b o v.cells.toList):=by
 have:=run_storeCells_cells (P:=P) b o v.cells.toList 0 w (fun j hj=>by simpa using(ht j hj).1) (fun j hj=>by simpa using(ht j hj).2) h1;cases hq:P.info? ty with
 |none=>simp_all
 |some i=>
  have hs:v.cells.size=i.size:=by simp_all
  simp only[AQ2]at this;simp[Instr.storeAt,Instr.sureAddr,storeVar,sizeOf,typeInfo,hq,hs,this]
theorem aw{E E1 E':Env}{w w':World}{vw jV Qd:List Bx}{F:AAs}(b0:Nat)(k:G6 E w vw vw [] E1 jV F)(st:∀c,E.S c→E.T c)(hlen:vw.length≤Qd.length)
  (tv:∀b d r rows,b≠b0→b<vw.length→Qd[b]? =some (.sl d r rows)→jV[b]? =some (.sl d r rows)) (ACg:∀b,b<vw.length→E'.Hz b=E1.Hz b) (mG:∀b,b<vw.length→E'.Hy b=E1.Hy b) (hT:E'.T=E1.T) (hS:E'.S=E1.S)
  (hw:∀c,c<w.heap.size→c∉F→w'.heap[c]? =w.heap[c]?)
  (h0:∀d r rows,Qd[b0]? =some (.sl d r rows)→ ∃d0 Rx,vw[b0]? =some (.sl d0 r Rx)∧
   ∀p,C_ r Rx p→ ∀q ys,G3 r Rx p=some ⟨q,ys⟩→C_ r rows p∧(∃tw,G3 r rows p=some ⟨q,tw⟩∧List.length tw=List.length ys)∧
    ∀h,I2 w (E.Hy b0) p=some h→I2 w' (E'.Hy b0) p=some h):Sz E w vw E' w' Qd:=by
 have hB:=k.boxes;obtain⟨Fs,⟨h1,h2⟩,h3⟩:=hB;simp only[ANI]at h3;have wH:∀c,E1.T c→w'.heap[c]? =w.heap[c]?:=fun c hc=>hw c (h3.cX c hc) fun hf=>h3.free c (by simp[hf]) hc
 refine⟨hlen,fun b hb=>by rw[ACg b hb,k.le.Hz],fun c hc=>by rw[hT];exact k.le.T c hc,fun c hc=>by rw[hS];exact k.le.S c hc,st,fun c hc=>wH c (k.le.T c hc),fun b d r rows hb e=> ?_⟩;by_cases hb0:b=b0
 ·simp_all
 have e1:=tv b _ _ _ hb0 hb e;rcases k.within b _ e1 with e2|e2
 ·cases e2
 ·refine⟨d,rows,e2,fun p hp q ys hg=>⟨hp,⟨ys,hg,rfl⟩,fun h' hh=> ?_⟩⟩
  have hF:Fs[b]? =some (Fs[b]'(by grind)):=ALD _;obtain⟨hd,ho⟩:=h2 b _ _ e1 hF;rw[mG b hb];rw[←k.le.Hy]at hh;refine sx ho (fun c hc=>wH c (h3.st c hc)) (fun c hc=> ?_) hp hg hh;have TQ:c∈Fs.flatten:=AQP.2 ⟨_,AO9 hF,hc⟩;exact hw c (h3.lt c (by simp[TQ])) fun hf=>(AOA.1 h3.nodup).2.2 c TQ c hf rfl
def Bx.map(f:AV→AV):Bx→Bx
 | .mem cs=> .mem (cs.map f)
 |B=>B
theorem C7.ATZ{E E':Env}{w w':World}{vw vw' bx:List Bx}{G:AAs}(f:AV→AV)(h:C7 E w vw bx G)(k:∀x v,VR E w vw x v→VR E' w' vw' (f x) v)
  (hS:∀c,E.S c→E'.S c) (ACg:∀b,b<bx.length→E'.Hz b=E.Hz b) (mG:∀b,b<bx.length→E'.Hy b=E.Hy b)
  (hw:∀c,(E.S c∨(¬E.T c∧c∉G))→c<w.heap.size→w'.heap[c]? =w.heap[c]?)
  (ACe:∀F,Sep E w (F++G)→Sep E' w' (F++G)):C7 E' w' vw' (bx.map (Bx.map f)) G:=by
 obtain⟨Fs,⟨hl,h1⟩,h2⟩:=h;refine⟨Fs,⟨by simp_all,fun n B F hn hF=> ?_⟩,ACe _ h2⟩;rw[AQN,ALN]at hn;obtain⟨B,hn,rfl⟩:=hn;have Hw:=(ALO.1 hn).1;have h3:=h1 n B F hn hF;have ALz:∀c∈F,c∈Fs.flatten:=fun c hc=>AQP.2 ⟨F,AO9 hF,hc⟩
 have hFw:∀c∈F,w'.heap[c]? =w.heap[c]?:=fun c hc=>hw c (.inr ⟨h2.free c (by simp_all),fun hg=>by
  have:=(AOA.1 h2.nodup).2.2 c (ALz c hc) c hg;omega⟩) (h2.lt c (by simp_all))
 have rN:∀c,E.S c→w'.heap[c]? =w.heap[c]?:=fun c hc=>hw c (.inl hc) (h2.cX c (h2.st c hc))
 cases B with
 |mem cs=>
  obtain⟨rfl,arr,ty,fr,ha,hu,hv⟩:=h3;refine⟨by simp_all,arr,ty,fr,?_,hu,CR.Ly f k hv⟩;simp_all
 |sl d r rows=>
  obtain⟨hd,ho⟩:=h3;refine⟨hd,?_⟩;grind[EO]
 |dead=>exact h3
theorem Bx.map_id:∀B:Bx,Bx.map id B=B
 | .mem cs=>by simp[Bx.map]
 | .sl _ _ _=>rfl
 | .dead=>rfl
theorem Zr(bx:List Bx):bx.map (Bx.map id)=bx:=by
 induction bx with
 |nil=>rfl
 |cons B l ih=>simp[ih,Bx.map_id]
theorem ll(b:Nat)(bx:List Bx):bx.map (yz b)=bx.map (Bx.map (Js b)):=by
 rfl
theorem z6{E:Env}{σ:St}{a:Act}{w:World}(h:Rel E σ a w){b j:Nat}{cs dR:List AV}(hb:σ.bx[b]? =some (.mem cs)){xs:List AV}{vs:List Value}(hx:i7 E w σ.bx xs vs)(cq:xs≠[])
  (e:XZ cs j xs=some dR):
  w.there (E.Hz b) j vs.length∧Rel E { σ with bx:=σ.bx.set b (.mem dR) } a (w.setCells (E.Hz b) j vs)∧RP [b] E σ.bx w E (σ.bx.set b (.mem dR)) (w.setCells (E.Hz b) j vs):=by
 have st:=h.bx.st;obtain⟨F,⟨rfl,arr,ty,fr,ha,hu,hv⟩,hB⟩:=h.bx.take hb;simp only[ANI]at hB;have Hw:=(ALO.1 hb).1;rcases XK hv hx e with⟨h1,h2⟩|⟨h1,_⟩
 case inr=>simp_all
 have dW:j+vs.length≤arr.size:=by
  have l1:=CR.len hv;have l2:=CR.len hx;simp_all
 have bu: ¬E.T (E.Hz b):=hB.ACO _ (by simp);have hB0:=hB;have cP:∀c,c≠E.Hz b→(w.setCells (E.Hz b) j vs).heap[c]? =w.heap[c]?:=fun c hc=>DM _ _ _ _ _ hc
 have hw:∀c,c<w.heap.size→c∉[E.Hz b]→(w.setCells (E.Hz b) j vs).heap[c]? =w.heap[c]?:=fun c _ hc=>cP c (by simp_all)
 have kT:G6 E w σ.bx σ.bx [] E (σ.bx.set b .dead) [E.Hz b]:=⟨Le.refl _,by simp,fun n B hn=>by
  grind,by simp_all⟩
 have keep:Sz E w σ.bx E (w.setCells (E.Hz b) j vs) (σ.bx.set b (.mem dR)):=aw b kT st (by simp) (fun n d r rows hn _ hq=>by
   grind) (fun _ _=>rfl) (fun _ _=>rfl) rfl rfl hw (fun d r rows hq=>by
   simp_all)
 refine⟨UW ha dW hu,⟨h.Ns,h.tm.imp fun _ _ hq=>O_ keep hq,?_⟩,⟨⟨fun _ h=>h,fun _ h=>h,fun _ h=> .inl h,fun _ h=> .inl h,fun c hc=>cP c (fun e=>bu (e▸hc)),(Bw _ _ _ _).os,(Bw _ _ _ _).tape,(Bw _ _ _ _).output,(Bw _ _ _ _).size⟩,by simp,fun _ _=>⟨rfl,rfl⟩,fun n hn=>by
  grind,fun n B B' qF hB Tb we=>by
  simp at qF;rw[AQQ (fun e=>qF e.symm),hB]at Tb;cases Tb;refine⟨VB.refl we,fun c hc=>cP c (fun e=> ?_)⟩;obtain⟨Fs,⟨f1,f2⟩,f3⟩:=hB0;have Xx:(σ.bx.set b .dead)[n]? =some B:=by grind
  have hF:Fs[n]? =some (Fs[n]'(by grind)):=ALD _;rcases eG (f2 n B _ Xx hF) hc with hs|hs
  ·simp_all
  ·exact(AOA.1 f3.nodup).2.2 c (AQP.2 ⟨_,AO9 hF,hs⟩) (E.Hz b) (by simp) e⟩⟩
 have hT:=hB.turn (E':=E) (w':=w.setCells (E.Hz b) j vs) (vw':=σ.bx.set b (.mem dR)) (fun x v hq=>GD keep hq) (fun _ h=>h) (fun _ _=>rfl) (fun _ _=>rfl) (fun c hc _=>cP c (fun e=>by
   simp_all)) (fun F hF=>⟨hF.nodup,hF.free,fun c hc=>by rw[DR];exact hF.lt c hc,hF.st,fun c hc=>by rw[DR];exact hF.cX c hc⟩)
 have:=C7.put (b:=b) (B:= .mem dR) (F:=[E.Hz b]) (G:=[]) (by simpa using hT) (by simp_all) ⟨rfl,FC arr j vs,ty,fr,FU _ _ _ _ _ _ _ ha,by rw[FT];omega,h1.imp fun _ _ hq=>GD keep hq⟩;simp_all
theorem W5:∀{r:Ty} {j j':Nat} {x:r.D} {t:Ty} {y:t.D} {x':r.D},Dt r j x t y=some x'→j'≠j→BK r j' x' =BK r j' x
 | .cons c r,0,j',x,t,y,x',e,hj=>by
  simp only[Dt]at e;split at e
  ·rename_i h
   subst h;simp only[ALL]at e;subst e;cases j' with
   |zero=>omega
   |succ j' =>rfl
  simp_all
 | .cons c r,j+1,j',x,t,y,x',e,hj=>by
  simp only[Dt,ALN]at e;obtain⟨z,e1,rfl⟩:=e;cases j' with
  |zero=>rfl
  |succ j' =>
   simp only[BK];exact W5 e1 (by omega)
 | .unit,_,_,_,_,_,_,e,_=>by rfl
 | .int k,0,j',x,t,y,x',e,hj=>by cases j' with
  |zero=>omega
  |succ j' =>rfl
 | .bool,0,j',x,t,y,x',e,hj=>by cases j' with
  |zero=>omega
  |succ j' =>rfl
 | .str,0,j',x,t,y,x',e,hj=>by cases j' with
  |zero=>omega
  |succ j' =>rfl
 | .sl _,0,j',x,t,y,x',e,hj=>by cases j' with
  |zero=>omega
  |succ j' =>rfl
 | .int _,_+1,_,_,_,_,_,e,_=>by simp[Dt]at e
 | .bool,_+1,_,_,_,_,_,e,_=>by simp[Dt]at e
 | .str,_+1,_,_,_,_,_,e,_=>by simp[Dt]at e
 | .sl _,_+1,_,_,_,_,_,e,_=>by simp[Dt]at e
theorem Ue:∀{r:Ty} {j:Nat} {x:r.D} {t:Ty} {y:t.D} {x':r.D},Dt r j x t y=some x'→BK r j x' =some ⟨t,y⟩∧ ∃y0:t.D,BK r j x=some ⟨t,y0⟩
 | .cons c r,0,x,t,y,x',e=>by
  simp only[Dt]at e;split at e
  ·rename_i h
   subst h;simp only[ALL]at e;subst e;exact⟨rfl,_,rfl⟩
  simp_all
 | .cons c r,j+1,x,t,y,x',e=>by
  simp only[Dt,ALN]at e;obtain⟨z,e1,rfl⟩:=e;simp only[BK];exact Ue e1
 | .unit,_,_,_,_,_,e=>by simp[Dt]at e
 | .int k,0,x,t,y,x',e=>by
  simp only[Dt]at e;split at e
  ·rename_i h;subst h;cases e;exact⟨rfl,_,rfl⟩
  simp_all
 | .bool,0,x,t,y,x',e=>by
  simp only[Dt]at e;split at e
  ·rename_i h;subst h;cases e;exact⟨rfl,_,rfl⟩
  simp_all
 | .str,0,x,t,y,x',e=>by
  simp only[Dt]at e;split at e
  ·rename_i h;subst h;cases e;exact⟨rfl,_,rfl⟩
  simp_all
 | .sl _,0,x,t,y,x',e=>by
  simp only[Dt]at e;split at e
  ·rename_i h;subst h;cases e;exact⟨rfl,_,rfl⟩
  simp_all
 | .int _,_+1,_,_,_,_,e=>by simp[Dt]at e
 | .bool,_+1,_,_,_,_,e=>by simp[Dt]at e
 | .str,_+1,_,_,_,_,e=>by simp[Dt]at e
 | .sl _,_+1,_,_,_,_,e=>by simp[Dt]at e
theorem kU{r:Ty}{rows:List r.D}{i k:Nat}{x:r.D}(hi:i<rows.length):rowAt r (rows.set i x) k=if k=i then x else rowAt r rows k:=by
 unfold rowAt;grind
theorem oF:∀{p:List ky} {r:Ty} {rows Cx:List r.D} {q:Ty} {ys tw:List q.D},G3 r rows p=some ⟨q,ys⟩→tw.length=ys.length→oG r rows p q tw=some Cx→Cx.length=rows.length
 |[],r,rows,Cx,q,ys,tw,h1,h2,h3=>by
  simp only[G3,ALL,ANo]at h1;obtain⟨rfl,h1⟩:=h1;obtain rfl:=AQJ h1;simp only[oG,AUk,Q4,ALL]at h3;simp_all
 |s::p,r,rows,Cx,q,ys,tw,h1,h2,h3=>by
  simp only[oG]at h3;split at h3
  ·simp only[ALe,ALN]at h3
   grind
  simp_all
theorem lG{t:Ty}(ht:t.scalar=true){y:t.D}{q:Ty}{i j:Nat}:∀{p':List ky} {r:Ty} {rows Cx:List r.D} {p:List ky} {ys:List q.D} {Z3:q.D},C_ r rows p→G3 r rows p=some ⟨q,ys⟩→i<ys.length→
  Dt q j (rowAt q ys i) t y=some Z3→oG r rows p q (ys.set i Z3)=some Cx→C_ r rows p'→ ∀q' zs,G3 r rows p' =some ⟨q',zs⟩→
   C_ r Cx p'∧ ∃zs',G3 r Cx p' =some ⟨q',zs'⟩∧List.length zs' =List.length zs
 |[],r,rows,Cx,p,ys,Z3,_,hg,hi,hc,hs,_,q',zs,vN=>by
  simp only[G3,ALL,ANo]at vN;obtain⟨rfl,vN⟩:=vN;obtain rfl:=AQJ vN;exact⟨by simp[C_],Cx,by rfl,oF hg (by simp) hs⟩
 |s'::p',r,rows,Cx,p,ys,Z3,hp,hg,hi,hc,hs,hp',q',zs,vN=>by
  have hlen:=oF hg (by simp) hs;simp only[C_]at hp'⊢;obtain⟨g1,g2,g3⟩:=hp';simp only[G3]at vN⊢;split at vN
  case h_2=>cases vN
  rename_i q0 x0 gY;rw[gY]at g3;dsimp only at g3;have key:∃x1,BK r s'.j (rowAt r Cx s'.i)=some ⟨.sl q0,x1⟩∧C_ q0 x1 p'∧ ∃zs',G3 q0 x1 p' =some ⟨q',zs'⟩∧List.length zs' =List.length zs:=by
   have same:BK r s'.j (rowAt r Cx s'.i)=some ⟨.sl q0,x0⟩→ ∃x1,BK r s'.j (rowAt r Cx s'.i)=some ⟨.sl q0,x1⟩∧C_ q0 x1 p'∧ ∃zs',G3 q0 x1 p' =some ⟨q',zs'⟩∧List.length zs' =List.length zs:=
    fun h=>⟨x0,h,g3,zs,vN,rfl⟩
   cases p with
   |nil=>
    simp only[G3,ALL,ANo]at hg;obtain⟨rfl,hg⟩:=hg;obtain rfl:=AQJ hg;simp only[oG,AUk,Q4,ALL]at hs;subst hs;apply same;rw[kU hi];split
    ·rename_i e
     subst e;by_cases ej:s'.j=j
     ·obtain⟨_,y0,h0⟩:=Ue hc
      rw[ej,h0]at gY;simp only[ALL,ANo]at gY;obtain⟨rfl,_⟩:=gY;simp[Ty.scalar]at ht
     grind[W5]
    omega
   |cons s p=>
    simp only[C_]at hp;obtain⟨k1,k2,k3⟩:=hp;simp only[G3]at hg;split at hg
    case h_2=>cases hg
    rename_i r' x hcx;rw[hcx]at k3;dsimp only at k3;simp only[oG,hcx,ALe,ALN]at hs;obtain⟨x',hs1,row2,hs2,rfl⟩:=hs;rw[kU k1];rw[kU k1]at same;split
    ·rename_i e
     rw[ALC e]at same;rw[e]at gY;by_cases ej:s'.j=s.j
     ·rw[ej]at gY⊢
      rw[hcx]at gY;simp only[ALL,ANo,Ty.sl.injEq]at gY;obtain⟨rfl,gY⟩:=gY;obtain rfl:=AQJ gY;obtain⟨m1,m2⟩:=lG ht k3 hg hi hc hs1 g3 q' zs vN;grind[Ue]
     grind[W5]
    simp_all
  grind
theorem rk{w w':World}{B:Nat→Prop}(Zy:∀A,w'.cell? A=w.cell? A∨ ∃v,w'.cell? A=some v∧isSlice v=false):∀{p:List ky} {r:Ty} {h:Value} {rows:List r.D} {hh:Value},
  Rd w' B (.sl r) [h] rows→C_ r rows p→I2 w h p=some hh→I2 w' h p=some hh
 |[],_,h,_,hh,_,_,e=>by grind[C4]
 |s::p,r,h,rows,hh,hr,hp,e=>by
  simp only[C_]at hp;obtain⟨hi,PQ,hp⟩:=hp;simp only[Rd]at hr;obtain⟨a,cap,e1,_,hr⟩:=hr;obtain rfl:=(List.cons.inj e1).1;rcases hr with hr|⟨b,o,rfl,hb,hr⟩
  ·omega
  obtain⟨cs,hl,hc,hrow⟩:=hr s.i _ (Qs hi);split at hp
  case h_2=>exact hp.elim
  rename_i q x gY;obtain⟨v,hv,hrv⟩:=eU hrow gY;have hcv:=hc _ _ hv;rw[←PQ]at hcv;simp only[I2]at e⊢;split at e
  case h_2=>cases e
  rename_i v0 hv0;rcases Zy ⟨b,o+s.i*s.sz+s.j,none⟩with h1|⟨u,h1,h2⟩
  ·rw[h1,hv0]
   rw[h1,hv0]at hcv;cases hcv;exact rk Zy hrv hp e
  ·rw[hcv]at h1
   cases h1;simp only[Rd]at hrv;obtain⟨_,_,e2,_⟩:=hrv;simp only[APx,AQc]at e2;grind[isSlice]
theorem ADa{E E':Env}{w w':World}{vw vw':List Bx}{b d d':Nat}{r:Ty}{rows Cx:List r.D}(k:Sz E w vw E' w' (vw'.set b .dead))(hb:vw[b]? =some (.sl d r rows))(uv:vw'[b]? =some (.sl d' r Cx))(hl:Cx.length=rows.length)
  (hh:E'.Hy b=E.Hy b) {x:AV} {v:Value} (h:VR E w vw x v):VR E' w' vw' (Js b x) v:=by
 have h1:=GD k h;have cP:∀{b'},b'≠b→(vw'.set b .dead)[b']? =vw'[b']?:=fun e=>AQQ (fun h=>e h.symm)
 cases x with
 |v t x=>exact h1
 |sl s r x=>exact h1
 |nil=>exact h1
 |IX c j=>exact⟨by simpa using h1.1,h1.2⟩
 |PO s r x j=>exact h1
 |fn f Kg=>exact⟨fun c hc=>by simpa using h1.1 c hc,h1.2⟩
 |qG f rows=>exact h1
 |xB=>exact h1
 |undef=>trivial
 |ref c p=>
  cases p with
  |nil=>
   simp only[Js];by_cases e:c=b
   ·subst e
    simp only[VR,hb,uv]at h⊢;refine⟨h.1,by simp[C_],⟨_,rfl⟩,?_⟩;grind[C4]
   grind[VR]
  |cons s p=>
   grind[Js,VR]
 |win c p off n=>
  cases p with
  |nil=>
   simp only[Js];by_cases e:c=b
   ·subst e
    simp only[VR,hb,uv]at h⊢;obtain⟨h0,_,q,ys,a,len,cap,e1,e2,e3,e4⟩:=h;simp only[G3,ALL,ANo]at e1;obtain⟨rfl,e1⟩:=e1;obtain rfl:=AQJ e1;refine⟨h0,by simp[C_],r,Cx,a,len,cap,rfl,by omega,?_,e4⟩;grind[C4]
   grind[VR]
  |cons s p=>
   grind[Js,VR]
 |Je c p i sz j=>
  cases p with
  |nil=>
   simp only[Js];by_cases e:c=b
   ·subst e
    simp only[VR,hb,uv]at h⊢;obtain⟨h0,_,q,ys,bb,o,len,cap,e1,e2,e3,e4⟩:=h;simp only[G3,ALL,ANo]at e1;obtain⟨rfl,e1⟩:=e1;obtain rfl:=AQJ e1;refine⟨h0,by simp[C_],r,Cx,bb,o,len,cap,rfl,by omega,?_,e4⟩;grind[C4]
   grind[VR]
  |cons s p=>
   grind[Js,VR]
theorem ABq{E E':Env}{w w':World}{vw vw':List Bx}{b:Nat}(k:∀x v,VR E w vw x v→VR E' w' vw' (Js b x) v){x:XV}{v:Value}(h:XR E w vw x v):XR E' w' vw' (sD b x) v:=by
 cases x with
 |c x=>exact k x v h
 |agg l=>
  obtain⟨vs,rfl,Vt⟩:=h;exact⟨vs,rfl,CR.Ly _ k Vt⟩
 |NA l=>
  obtain⟨vs,rfl,Vt⟩:=h;refine⟨vs,rfl,CR.Ly _ (fun x v hx=> ?_) Vt⟩;cases x with
  |inl x=>exact k x v hx
  |inr q=>
   obtain⟨us,rfl,hus⟩:=hx;exact⟨us,rfl,CR.Ly _ k hus⟩
end Go.Fw
end
section
namespace Go.Fw
theorem pC{w:World}{vw:List Bx}{E:Env}{bx:List Bx}{G:AAs}(h:C7 E w vw bx G)(hw:FG bx vw){d:Nat}(hd:1≤d){q:Ty}{old:q.D}{j:Nat}{x:XV}{v:Value}(hv:XR E w vw x v){Z3:q.D}{Qd:List Bx}{d':Nat}
  (e:o7 d q old j x bx=some (Z3,Qd,d')):1≤d'∧d'≤d∧ ∃E' F,G6 E w vw bx G E' Qd F∧
   ((j=0∧x.plain=false∧Ow w E'.S (d'-1) q v.cells.toList Z3 F)∨(∃t y,v.cells.toList=[v]∧Ow w E'.S (d'-1) t [v] y F∧Dt q j old t y=some Z3∧(x.plain=true→t.scalar=true∧isSlice v=false))):=by
 unfold o7 at e;split at e
 ·rename_i l
  split at e
  case isFalse=>cases e
  rename_i hj;obtain⟨vs,rfl,Vt⟩:=hv;obtain⟨h1,h2,E',F,h3,h4⟩:=Y_ h hw hd Vt e;exact⟨h1,h2,E',F,h3,.inl ⟨hj,rfl,h4⟩⟩
 ·rename_i x
  split at e
  case h_2=>cases e
  rename_i t y0 hc;simp only[ALe,ALN,AQD]at e;obtain⟨⟨y,jV,d1⟩,e1,row,e2,rfl,rfl,rfl⟩:=e;dsimp only at e2;have X8:VR E w vw x v:=hv;have hk:x.known=true:=by grind[AV.known,di]
  obtain⟨h1,h2,E',F,h3,h4⟩:=bG h hw hd X8 e1;refine⟨h1,h2,E',F,h3,.inr ⟨t,y,by rw[(sX X8 hk).2],h4,e2,fun hp=> ?_⟩⟩;cases x with
  |v u z=>
   simp only[di,ALN,AQD]at e1;obtain⟨z',e3,_⟩:=e1;obtain⟨rfl,_⟩:=ID e3;obtain⟨hs,hr⟩:=X8;refine⟨hs,?_⟩;cases u<;>simp_all[Ty.scalar,Rd]<;>rfl
  |_=>simp[XV.plain]at hp
 simp_all
theorem qB{f:AV→AV}{bx:List Bx}{b d:Nat}{r:Ty}{rows:List r.D}:(bx.set b (.sl d r rows)).map (Bx.map f)=(bx.map (Bx.map f)).set b (.sl d r rows):=by
 rw[List.map_set];rfl
theorem ACT{f:AV→AV}{bx:List Bx}{n d:Nat}{r:Ty}{rows:List r.D}(h:(bx.map (Bx.map f))[n]? =some (.sl d r rows)):bx[n]? =some (.sl d r rows):=by
 rw[AQN,ALN]at h;obtain⟨B,h1,h2⟩:=h;cases B with
 |mem cs=>simp[Bx.map]at h2
 |sl d' r' Cx=>rw[h1];exact congrArg some h2
 |dead=>simp[Bx.map]at h2
theorem rr{E:Env}{σ:St}{a:Act}{w:World}(h:Rel E σ a w){b i sz j:Nat}{p:List ky}{va v:Value}(hva:VR E w σ.bx (.Je b p i sz j) va){x:XV}(hv:XR E w σ.bx x v)(h1c:∀u∈v.cells.toList,u.oneCell' =true)
  {σ':St} (e:gj σ (.c (.Je b p i sz j)) x=some σ'):
  ∃bb oo E',va= .pointer (some ⟨bb,oo,none⟩)∧w.there bb oo v.cells.toList.length∧Rel E' σ' a (w.setCells bb oo v.cells.toList)∧RP [b] E σ.bx w E' σ'.bx (w.setCells bb oo v.cells.toList)∧σ'.tm.length=σ.tm.length:=by
 simp only[gj]at e;split at e
 case h_2=>cases e
 rename_i d r rows hb;split at e
 case isFalse=>cases e
 rename_i wR;simp only[ALe]at e;obtain⟨⟨q,ys⟩,hg,e⟩:=e;dsimp only at e;split at e
 case isFalse=>cases e
 rename_i PQ;simp only[ALe,ALN]at e;obtain⟨⟨Z3,aQ,d2⟩,e1,Cx,e2,e3⟩:=e;dsimp only at e1 e2 e3;have st:=h.bx.st;simp only[VR,hb]at hva;obtain⟨_,hp,q1,ys1,bb,o,len,cap,g1,hi,g3,rfl⟩:=hva;rw[hg]at g1;simp only[ALL,ANo]at g1;obtain⟨rfl,g1⟩:=g1;obtain rfl:=AQJ g1;have Hw:=(ALO.1 hb).1;obtain⟨Gb,⟨hd1,ho⟩,hB⟩:=h.bx.take hb;have QV:FG (σ.bx.set b .dead) σ.bx:=fun n B hn=>by
  grind
 obtain⟨hd2,hd3,E1,Fx,k1,hrow⟩:=pC hB QV (by omega) hv e1;obtain⟨A,W,pG,ho2⟩:=KE (d:=d2+p.length) (by omega) ho;have Xx:=k1.boxes.perm (G':=(Fx++A)++W++[]) (by
  grind)
 obtain⟨hle,hB3⟩:=Xx.share;simp only[ANI]at hB3
 generalize hE3:({ E1 with S:=fun c=>E1.S c∨c∈W,T:=fun c=>E1.T c∨c∈W }:Env)=E3 at hle hB3
 have nc:Le E E3:=k1.le.trans hle;have ho3:Ow w E3.S (d2+p.length) (.sl r) [E.Hy b] rows A:=EO (fun c hc=>by
  subst hE3;exact hc.imp (k1.le.S c) id) (fun _ _=>rfl) (fun _ _=>rfl) ho2
 obtain⟨h',F1,F2,m1,m2,m3,m4⟩:=nU ho3 hp hg (by omega);rw[g3]at m1;cases m1;obtain⟨m,rfl⟩:∃m,d2=m+1:=⟨d2-1,by omega⟩;rw[show m+1+p.length-p.length=m+1 by omega]at m2 m4;simp only[Nat.add_sub_cancel]at hrow;obtain⟨b1,o1,arr,ty,fr,cs,G,R,n1,n2,n3,n4,n5,n6,n7,n8,n9⟩:=td m2 hi;simp only[ALL,Addr.mk.injEq,AQc]at n1;obtain⟨rfl,rfl⟩:=n1;subst PQ;have hAp:A.Perm (G++(bb::R)++F2):=m3.trans (n8.append_right F2);obtain⟨Fs,hFs1,hFs2⟩:=hB3;have hbA:bb∈A:=hAp.mem_iff.2 (by simp);have bu: ¬E3.T bb:=hFs2.free bb (by simp[hbA]);have wv: ¬E3.S bb:=fun hc=>bu (hFs2.st bb hc)
 have nd:(Fx++(G++(bb::R)++F2)).Nodup:=(ASu Fx hAp).nodup_iff.1 (AOA.1 hFs2.nodup).2.1;have hnx:bb∉Fx:=fun hc=>(AOA.1 nd).2.2 bb hc bb (by simp) rfl
 have hnG:bb∉G:=fun hc=>(AOA.1 (AOA.1 (AOA.1 nd).2.1).1).2.2 bb hc bb (by simp) rfl
 have hnR:bb∉R:=(AS8.1 (AOA.1 (AOA.1 (AOA.1 nd).2.1).1).2.1).1;have hn2:bb∉F2:=fun hc=>(AOA.1 (AOA.1 nd).2.1).2.2 bb (by simp) bb hc rfl
 have YF:j+v.cells.toList.length≤q.n:=by
  rcases hrow with⟨rfl,_,ho4⟩|⟨t,y,hc1,ho4,UZ,_⟩
  ·rw[Xh ho4];omega
  ·rw[hc1]
   obtain⟨_,y0,hc0⟩:=Ue UZ;grind[eF,List.getElem?_eq_some_iff]
 have dW:o+i*q.n+j+v.cells.toList.length≤arr.size:=by omega
 let w':=w.setCells bb (o+i*q.n+j) v.cells.toList
 have cP:∀c,c≠bb→w'.heap[c]? =w.heap[c]?:=fun c hc=>DM _ _ _ _ _ hc
 have rN:∀c,E3.S c→w'.heap[c]? =w.heap[c]?:=fun c hc=>cP c (fun e=>wv (e▸hc))
 have uv:=FU v.cells.toList (o+i*q.n+j) w bb arr ty fr n2;have Zy:∃dR G' D0,dR.length=q.n∧BT w' bb (o+i*q.n) dR∧Ow w' E3.S m q dR Z3 G'∧(Fx++G).Perm (G'++D0):=by
  rcases hrow with⟨rfl,_,ho4⟩|⟨t,y,hc1,ho4,UZ,_⟩
  ·refine⟨v.cells.toList,Fx,G,Xh ho4,N8 n2 dW,EO (fun c hc=>hle.S c hc) (fun c hc=>cP c (fun e=>wv (e▸hle.S c hc))) (fun c hc=>cP c (fun e=>hnx (e▸hc))) ho4,AVF _⟩
  ·obtain⟨_,y0,hc0⟩:=Ue UZ
   obtain⟨u,K1,K2,z1,z2,z3,z4⟩:=eF n7 hc0;have AYX:bb∉K2:=fun hc=>hnG (z3.mem_iff.2 (by simp[hc]))
   obtain⟨F',f1,f2⟩:=z4 w' E3.S v y Fx Z3 (fun _ hc=>hc) rN (fun c hc=>cP c (fun e=>AYX (e▸hc)))
    (EO (fun c hc=>hle.S c hc) (fun c hc=>cP c (fun e=>wv (e▸hle.S c hc))) (fun c hc=>cP c (fun e=>hnx (e▸hc))) ho4) UZ
   refine⟨cs.set j v,F',K1,by simp_all,fun x u' hx=> ?_,f2,?_⟩
   ·rw[List.getElem?_set]at hx
    split at hx
    ·rename_i ejx
     subst ejx;split at hx
     ·cases hx
      have:=N8 (w:=w) (b:=bb) (o:=o+i*q.n+j) (vs:=v.cells.toList) n2 dW 0 v (by simp_all);omega
     simp_all
    ·rename_i ejx
     have hold:=n6 x u' hx;rw[Kp n2]at hold;rw[Kp uv,V7 dW,ALG (fun hh=>by grind),hold]
   grind
 obtain⟨dR,G',D0,c1,c2,c3,c4⟩:=Zy;obtain⟨my,f1,f2⟩:=n9 w' E3.S (FC arr (o+i*q.n+j) v.cells.toList) dR Z3 G' (fun _ hc=>hc) rN (fun c hc=>cP c (fun e=>hnR (e▸hc))) uv (FT _ _ _) (fun k hk=>by
  rw[V7 dW,ALG (by omega)]) c1 c2 c3
 obtain⟨F',f3,f4⟩:=m4 w' E3.S (ys.set i Z3) my Cx (fun _ hc=>hc) rN (fun c hc=>cP c (fun e=>hn2 (e▸hc))) f2 e2;have nG:(Fx++A).Perm (F'++D0):=by
  have p1:F'.Perm (G'++(bb::R)++F2):=f3.trans (f1.append_right F2);refine(ASu Fx hAp).trans (List.Perm.trans ?_ (p1.symm.append_right D0));grind
 have AcO:bb∈F':=(f3.trans (f1.append_right F2)).mem_iff.2 (by simp);have hB4:C7 E3 w σ.bx aQ F':=by
  have:C7 E3 w σ.bx aQ (F'++D0):=C7.perm (G:=Fx++A) ⟨Fs,hFs1,hFs2⟩ nG;exact this.drop
 have ow:aQ.length=σ.bx.length:=by rw[k1.len];simp
 have AR4:aQ[b]? =some .dead:=by
  obtain⟨B,hB⟩:∃B,aQ[b]? =some B:=⟨_,ALD (by omega)⟩;rcases k1.within b B hB with e|e
  all_goals simp_all
 have hrl:Cx.length=rows.length:=oF hg (by simp) e2;have kT:∀E0,Le E0 E3→G6 E0 w σ.bx σ.bx [] E3 aQ (Fx++A):=fun E0 hl=>⟨hl,ow,fun n B hn=>by
  rcases k1.within n B hn with e|e
  all_goals grind,⟨Fs,hFs1,by simp_all⟩⟩
 have mG:∀n,E3.Hy n=E.Hy n:=fun n=>by rw[nc.Hy]
 have hww:∀c,c<w.heap.size→c∉Fx++A→w'.heap[c]? =w.heap[c]?:=fun c _ hc=>cP c (fun e=>hc (by simp_all))
 have base:cl E w E3 w':=⟨nc.T,nc.S,nc.Tof,nc.yH,fun c hc=>cP c (fun e=>bu (e▸nc.T c hc)),(Bw _ _ _ _).os,(Bw _ _ _ _).tape,(Bw _ _ _ _).output,(Bw _ _ _ _).size⟩;have finish:∀(f:AV→AV) (g:XV→XV),(∀E0,Le E0 E3→(∀c,E0.S c→E0.T c)→ ∀x v,VR E0 w σ.bx x v→VR E3 w' ((aQ.map (Bx.map f)).set b (.sl (m+1+p.length) r Cx)) (f x) v)→
   (∀x v,XR E w σ.bx x v→XR E3 w' ((aQ.map (Bx.map f)).set b (.sl (m+1+p.length) r Cx)) (g x) v)→
   Rel E3 { tm:=σ.tm.map g,bx:=(aQ.map (Bx.map f)).set b (.sl (m+1+p.length) r Cx) } a w':=by
  intro f g hf hg;refine⟨h.Ns,CR.Ly _ hg h.tm,?_⟩;have hT:=hB4.ATZ (E':=E3) (w':=w') (vw':=(aQ.map (Bx.map f)).set b (.sl (m+1+p.length) r Cx)) f (hf E3 (Le.refl _) hFs2.st) (fun _ h=>h) (fun _ _=>rfl) (fun _ _=>rfl) (fun c hc _=>cP c (fun e=>by
    simp_all)) (fun F hF=>⟨hF.nodup,hF.free,fun c hc=>by rw[DR];exact hF.lt c hc,hF.st,fun c hc=>by rw[DR];exact hF.cX c hc⟩)
  refine C7.put (F:=F') (G:=[]) (by simp_all) (by rw[AQN,AR4];rfl) ⟨by omega,?_⟩;simp_all
 have ATb:∀f:AV→AV,RP [b] E σ.bx w E3 ((aQ.map (Bx.map f)).set b (.sl (m+1+p.length) r Cx)) w':=fun f=>⟨base,by simp[ow],fun n _=>⟨by rw[nc.Hz],mG n⟩,fun n hn=>by
  have qF:n≠b:=fun e=>by simp_all
  have vh:=(ALO.1 hn).1;rw[AQQ (fun e=>qF e.symm),AQN];obtain⟨B,hB⟩:∃B,aQ[n]? =some B:=⟨_,ALD (by omega)⟩;have hBd:B= .dead:=by
   rcases(kT E nc).within n B hB with e|e
   all_goals simp_all
  rw[hB,hBd];rfl,fun n B B' qF hB Tb we=>by
  simp at qF;have vh:=(ALO.1 hB).1;rw[AQQ (fun e=>qF e.symm),AQN]at Tb;obtain⟨B2,Xx⟩:∃B2,aQ[n]? =some B2:=⟨_,ALD (by omega)⟩;rw[Xx]at Tb;have Tb:Bx.map f B2=B':=by simp_all
  have hBB:B2=B:=by
   rcases(kT E nc).within n B2 Xx with e|e
   ·subst e;exact absurd Tb.symm we
   simp_all
  subst hBB;refine⟨?_,fun c hc=>cP c (fun e=> ?_)⟩
  ·subst Tb
   cases B2 with
   |mem cs=>trivial
   |sl d r rows=>rfl
   |dead=>exact absurd rfl we
  ·have hF:Fs[n]? =some (Fs[n]'(by have:=(ALO.1 Xx).1;rw[hFs1.1];omega)):=ALD _
   have cR:wF E3 w n B2 c:=by
    cases B2 with
    |mem cs=>simp only[wF]at hc⊢;rw[nc.Hz];omega
    |sl d r rows=>grind[wF]
    |dead=>exact hc
   rcases eG (hFs1.2 n B2 _ Xx hF) cR with hs|hs
   ·simp_all
   ·exact(AOA.1 hFs2.nodup).2.2 c (AQP.2 ⟨_,AO9 hF,hs⟩) bb (by simp[hbA]) e⟩
 refine⟨bb,o+i*q.n+j,E3,rfl,UW (k:=0) n2 dW n3,?_,?_,?_⟩
 ·split at e3
  ·rename_i AXy
   have h0:∀E0,Le E0 E3→(∀c,E0.S c→E0.T c)→Sz E0 w σ.bx E3 w' (aQ.set b (.sl (m+1+p.length) r Cx)):=by
    intro E0 hl st0;refine aw b (kT E0 hl) st0 (by simp[ow]) (fun n d r rows hn _ hq=>by
      grind) (fun _ _=>rfl) (fun _ _=>rfl) rfl rfl hww (fun d0 r0 Rx hq=> ?_)
    rw[AQl (by omega)]at hq;simp only[ALL,Bx.sl.injEq]at hq;obtain⟨rfl,rfl,hq⟩:=hq;obtain rfl:=AQJ hq;refine⟨d,rows,hb,fun p' hp' q' zs vN=> ?_⟩;rcases hrow with⟨_,hpf,_⟩|⟨t,y,hc1,ho4,UZ,hsc⟩
    ·simp_all
    obtain⟨hs1,hs2⟩:=hsc AXy;have hk:=lG hs1 hp hg hi UZ e2 hp' q' zs vN;refine⟨hk.1,hk.2,fun hh hhe=> ?_⟩;rw[mG];rw[←hl.Hy,mG]at hhe;refine rk (fun Ad=> ?_) (XH f4) hk.1 hhe;by_cases eA:Ad.block=bb∧Ad.spot=none∧Ad.off=o+i*q.n+j
    ·right
     obtain⟨ab,ao,asp⟩:=Ad;simp only at eA;rw[eA.1,eA.2.1,eA.2.2];refine⟨v,?_,hs2⟩;have:=N8 (w:=w) (b:=bb) (o:=o+i*q.n+j) (vs:=v.cells.toList) n2 dW 0 v (by simp_all);omega
    grind[World.cell?_setCells_out,List.length_cons,List.length_nil]
   have:=finish id id (fun E0 hl st0 x v hx=>by rw[Zr];grind[GD]) (fun x v hx=>by rw[Zr];grind[O_]);grind[Zr,List.map_id]
  ·have h0:∀E0,Le E0 E3→(∀c,E0.S c→E0.T c)→ ∀x v,VR E0 w σ.bx x v→VR E3 w' ((aQ.map (Bx.map (Js b))).set b (.sl (m+1+p.length) r Cx)) (Js b x) v:=by
    intro E0 hl st0 x v hx;have keep:Sz E0 w σ.bx E3 w' (((aQ.map (Bx.map (Js b))).set b (.sl (m+1+p.length) r Cx)).set b .dead):=by
     refine aw b (kT E0 hl) st0 (by simp[ow]) (fun n d r rows hn _ hq=>by
      grind[List.getElem?_set_ne,ACT]) (fun _ _=>rfl) (fun _ _=>rfl) rfl rfl hww (fun d0 r0 Rx hq=> ?_)
     simp_all
    exact ADa keep hb (by rw[AQl (by simp_all)]) hrl (by rw[hl.Hy]) hx
   have:=finish (Js b) (sD b) h0 (fun x v hx=>ABq (h0 E nc st) hx);grind[St.yQ,ll,qB]
 ·rw[←e3]
  split
  all_goals grind[id,Zr,St.yQ,ll,qB]
 grind[St.yQ]
end Go.Fw
end
section
namespace Go.Fw
theorem eP{w w':World}{B B':Nat→Prop}:∀{r:Ty} {cs:List Value} {x:r.D},r.flat=true→Rd w B r cs x→Rd w' B' r cs x
 | .cons c r,cs,x,h,hr=>by
  simp only[Ty.flat,ALo]at h;simp only[Rd]at hr⊢;obtain⟨v,l,rfl,h1,h2⟩:=hr;exact⟨v,l,rfl,eP h.1 h1,eP h.2 h2⟩
 | .unit,_,_,_,hr=>by grind[Rd]
 | .int k,_,_,_,hr=>by grind[Rd]
 | .bool,_,_,_,hr=>by grind[Rd]
 | .str,_,_,_,hr=>by grind[Rd]
 | .sl q,_,_,h,_=>by simp[Ty.flat]at h
theorem ct{w:World}{S:Nat→Prop}{d:Nat}:∀{r:Ty} {cs:List Value} {y:r.D} {F:AAs},r.flat=true→Ow w S d r cs y F→F=[]
 | .int k,_,_,_,_,h=>by grind[Ow]
 | .bool,_,_,_,_,h=>by grind[Ow]
 | .str,_,_,_,_,h=>by grind[Ow]
 | .unit,_,_,_,_,h=>by grind[Ow]
 | .cons c r,_,_,_,hf,h=>by
  simp only[Ty.flat,ALo]at hf;simp only[Ow]at h;obtain⟨v,l,F1,F2,_,rfl,h1,h2⟩:=h;rw[ct hf.1 h1,ct hf.2 h2];rfl
 | .sl q,_,_,_,hf,_=>by simp[Ty.flat]at hf
theorem vf{w w':World}{S S':Nat→Prop}{d d':Nat}{r:Ty}(hr:r.flat=true){cs:List Value}{y:r.D}{F:AAs}(h:Ow w S d r cs y F):F=[]∧cs.length=r.n∧Ow w' S' d' r cs y []:=
 ⟨ct hr h,Xh h,jA hr (eP (B':=fun _=>False) hr (XH h))⟩
theorem jR:∀{r:Ty} {j:Nat} {x:r.D} {t:Ty} {y:t.D},r.flat=true→BK r j x=some ⟨t,y⟩→t.flat=true
 | .cons c r,0,x,t,y,h,e=>by
  simp only[Ty.flat,ALo]at h;simp only[BK,ALL,ANo]at e;simp_all
 | .cons c r,j+1,x,t,y,h,e=>by
  simp only[Ty.flat,ALo]at h;simp only[BK]at e;exact jR h.2 e
 | .unit,_,_,_,_,_,e=>by simp[BK]at e
 | .int k,0,x,t,y,_,e=>by simp only[BK,ALL,ANo]at e;simp_all
 | .bool,0,x,t,y,_,e=>by simp only[BK,ALL,ANo]at e;simp_all
 | .str,0,x,t,y,_,e=>by simp only[BK,ALL,ANo]at e;simp_all
 | .sl _,_,_,_,_,h,_=>by simp[Ty.flat]at h
 | .int _,_+1,_,_,_,_,e=>by simp[BK]at e
 | .bool,_+1,_,_,_,_,e=>by simp[BK]at e
 | .str,_+1,_,_,_,_,e=>by simp[BK]at e
theorem AAV{r:Ty}(hr:r.flat=true){rows:List r.D}:∀{p:List ky},C_ r rows p→p=[]
 |[],_=>rfl
 |s::p,h=>by
  simp only[C_]at h;obtain⟨_,_,h⟩:=h;exfalso;cases hc:BK r s.j (rowAt r rows s.i)with
  |none=>simp_all
  |some tx=>
   obtain⟨t,x⟩:=tx;have hf:=jR hr hc;grind[Ty.flat]
theorem flatten_nil{l:List AAs}(h:∀x∈l,x=[]):l.flatten=[]:=by
 simp_all;omega
theorem AAl{E:Env}{σ:St}{a:Act}{w:World}(h:Rel E σ a w){b d off n:Nat}{r:Ty}{rows:List r.D}(hb:σ.bx[b]? =some (.sl d r rows))(hr:r.flat=true)(hgd:r.tf=true)(hk:0<r.n)(hl:off+n≤rows.length)(hn:0<n):
  ∃bb o cap,E.Hy b= .slice (some ⟨bb,o,none⟩) rows.length cap∧rows.length≤cap∧w.there bb (o+off*r.n) (n*r.n)∧
   Rel E { σ with bx:=σ.bx.set b (.sl d r ((rows.take off++List.replicate n r.z)++rows.drop (off+n))) } a (w.setCells bb (o+off*r.n) (List.replicate n (Ej r)).flatten)∧
   RP [b] E σ.bx w E (σ.bx.set b (.sl d r ((rows.take off++List.replicate n r.z)++rows.drop (off+n)))) (w.setCells bb (o+off*r.n) (List.replicate n (Ej r)).flatten):=by
 have st:=h.bx.st;obtain⟨F,⟨hd,ho⟩,hB⟩:=h.bx.take hb;simp only[ANI]at hB;have Hw:=(ALO.1 hb).1;obtain⟨d',rfl⟩:∃m,d=m+1:=⟨d-1,by omega⟩;simp only[Ow]at ho;obtain⟨ad,cap,hh,wg,ho⟩:=ho;simp only[APx,AQc]at hh;rcases ho with⟨rfl,_⟩|⟨bb,o,arr,ty,fr,Fs,rfl,ha,PQ,hu,rfl,hFl,cI⟩
 ·omega
 have hFn:List.flatten Fs=[]:=flatten_nil fun x hx=>by
  obtain⟨i,hi,hxi⟩:=AQS hx;obtain⟨cs,_,_,h3⟩:=cI i (rows[i]'(by omega)) x (ALD _) (by grind);exact(vf (w':=w) (S':=E.S) (d':=0) hr h3).1
 rw[hFn]at hB;have hzl:(Ej r).length=r.n:=Gm r;have hvl:((List.replicate n (Ej r)).flatten).length=n*r.n:=by simp_all
 have hm1:(off+n)*r.n≤cap*r.n:=AOr _ (by omega);have hm2:(off+n)*r.n=off*r.n+n*r.n:=AQm ..;have dW:o+off*r.n+((List.replicate n (Ej r)).flatten).length≤arr.size:=by omega
 generalize Vt:(List.replicate n (Ej r)).flatten=vs at hvl dW
 refine⟨bb,o,cap,hh,wg,UW ha (by omega) hu,?_⟩;have bu: ¬E.T bb:=hB.ACO _ (by simp);have hB0:=hB;have cP:∀c,c≠bb→(w.setCells bb (o+off*r.n) vs).heap[c]? =w.heap[c]?:=fun c hc=>DM _ _ _ _ _ hc
 have hw:∀c,c<w.heap.size→c∉[bb]→(w.setCells bb (o+off*r.n) vs).heap[c]? =w.heap[c]?:=fun c _ hc=>cP c (by simp_all)
 have kT:G6 E w σ.bx σ.bx [] E (σ.bx.set b .dead) [bb]:=⟨Le.refl _,by simp,fun n B hn=>by
  grind,by simp_all⟩
 generalize ALq:(rows.take off++List.replicate n r.z)++rows.drop (off+n)=Cx
 have ATY:Cx.length=rows.length:=by
  grind
 have keep:Sz E w σ.bx E (w.setCells bb (o+off*r.n) vs) (σ.bx.set b (.sl (d'+1) r Cx)):=aw b kT st (by simp) (fun n d r rows hn _ hq=>by
   grind) (fun _ _=>rfl) (fun _ _=>rfl) rfl rfl hw (fun d1 r1 AKm hq=>by
   rw[AQl Hw]at hq;simp only[ALL,Bx.sl.injEq]at hq;obtain⟨rfl,rfl,hq⟩:=hq;obtain rfl:=AQJ hq;refine⟨d'+1,rows,hb,fun p hp q ys hg=> ?_⟩;obtain rfl:=AAV hr hp;simp only[G3,ALL,ANo]at hg;obtain⟨rfl,hg⟩:=hg;obtain rfl:=AQJ hg;exact⟨by simp[C_],⟨Cx,by rfl,ATY⟩,fun h' hh' =>hh'⟩)
 refine⟨⟨h.Ns,h.tm.imp fun _ _ hq=>O_ keep hq,?_⟩,⟨⟨fun _ h=>h,fun _ h=>h,fun _ h=> .inl h,fun _ h=> .inl h,fun c hc=>cP c (fun e=>bu (e▸hc)),(Bw _ _ _ _).os,(Bw _ _ _ _).tape,(Bw _ _ _ _).output,(Bw _ _ _ _).size⟩,by simp,fun _ _=>⟨rfl,rfl⟩,fun n hn=>by
  grind,fun n B B' qF hB Tb we=>by
  simp at qF;rw[AQQ (fun e=>qF e.symm),hB]at Tb;cases Tb;refine⟨VB.refl we,fun c hc=>cP c (fun e=> ?_)⟩;obtain⟨Fs,⟨f1,f2⟩,f3⟩:=hB0;have Xx:(σ.bx.set b .dead)[n]? =some B:=by grind
  have hF:Fs[n]? =some (Fs[n]'(by grind)):=ALD _;rcases eG (f2 n B _ Xx hF) hc with hs|hs
  ·simp_all
  ·exact(AOA.1 f3.nodup).2.2 c (AQP.2 ⟨_,AO9 hF,hs⟩) bb (by simp) e⟩⟩
 have hT:=hB.turn (E':=E) (w':=w.setCells bb (o+off*r.n) vs) (vw':=σ.bx.set b (.sl (d'+1) r Cx)) (fun x v hq=>GD keep hq) (fun _ h=>h) (fun _ _=>rfl) (fun _ _=>rfl) (fun c hc _=>cP c (fun e=>by
   simp_all)) (fun F hF=>⟨hF.nodup,hF.free,fun c hc=>by rw[DR];exact hF.lt c hc,hF.st,fun c hc=>by rw[DR];exact hF.cX c hc⟩)
 have ADC:pZ E (w.setCells bb (o+off*r.n) vs) (σ.bx.set b (.sl (d'+1) r Cx)) b (.sl (d'+1) r Cx) [bb]:=by
  refine⟨hd,?_⟩;simp only[Ow];refine⟨_,cap,by simp_all,by omega,.inr ⟨bb,o,FC arr (o+off*r.n) vs,ty,fr,List.replicate Cx.length [],rfl,FU _ _ _ _ _ _ _ ha,by rw[FT];omega,by rw[FT];omega,by simp,by simp,fun i y G hy hG=> ?_⟩⟩;have hG':G=[]:=AQw (AO9 hG);subst hG';have hil:i<rows.length:=by grind
  by_cases TQ:off≤i∧i<off+n
  ·have hyz:y=r.z:=by
    grind
   subst hyz;refine⟨Ej r,hzl,fun j v hj=> ?_,eX hgd⟩;have wI:j<r.n:=by grind
   have e1:(i-off)*r.n=i*r.n-off*r.n:=AR8 ..;have e2:off*r.n≤i*r.n:=AOr _ TQ.1;have e3:(i-off+1)*r.n≤n*r.n:=AOr _ (by omega);rw[AQm,Nat.one_mul]at e3;have:=N8 ha dW ((i-off)*r.n+j) v (by
    grind[NQ,Nat.mul_comm,Nat.mul_add_mod,Nat.mod_eq_of_lt])
   grind
  ·have hyo:rows[i]? =some y:=by
    rw[←ALq]at hy;by_cases h1:i<off
    ·grind
    grind[List.getElem?_append_right]
   obtain⟨cs,c1,c2,c3⟩:=cI i y (Fs[i]'(by omega)) hyo (ALD _);obtain⟨_,c4,c5⟩:=vf (w':=w.setCells bb (o+off*r.n) vs) (S':=E.S) (d':=d') hr c3;refine⟨cs,c4,UH c2 ha dW (.inr ?_),c5⟩;by_cases h1:i<off
   ·have:(i+1)*r.n≤off*r.n:=AOr _ h1
    grind
   grind
 have:=C7.put (b:=b) (B:= .sl (d'+1) r Cx) (F:=[bb]) (G:=[]) (by simpa using hT) (by simp_all) ADC;simp_all
section
variable{Y:Type} {P:Program} {T:Jm} (hT:En P T) {o:Oper} {E:Env} {σ:St} {a:Act} {w:World} {k:K Y} {y:Y}
include hT
theorem xc(h:Rel E σ a w){c:Call}{x:XV}(ho:o.op= .call c)(hc:c.callee= .builtin .clear)(IP:c.args.toList.map σ.ev=[x])(e:kL T c.argTypes σ x k=some y)
  (AWY:∀b p off n,x= .c (.win b p off n)→Kk (fun _=>none) σ o.op=[b]):∃v w' E' xv σ',((execOp a.eval o).run P w= .ok (.value v) w'∨((execOp a.eval o).run P w= .ok .skip w'∧v=undef))∧Rel E' σ' a w'∧XR E' w' σ'.bx xv v∧
   RP (Kk (fun _=>none) σ o.op) E σ.bx w E' σ'.bx w'∧σ'.tm.length=σ.tm.length∧k xv σ' =some y:=by
 obtain⟨o1,hargs',rfl⟩:=Xe IP;have cJ:=h.ev o1;unfold kL at e;split at e
 case h_2=>cases e
 rename_i t b off n ht hx;rw[hx]at cJ;rw[AWY b [] off n hx];split at e
 case h_2=>cases e
 rename_i d r rows hb;split at e
 case isFalse=>cases e
 rename_i Uj;rw[ALo]at Uj;obtain⟨Uj,hr⟩:=Uj;rw[ALo,ANR]at hr;obtain⟨hr,hk⟩:=hr;obtain⟨el,ti,hu,Uy,hs,hby,hrow⟩:=Ka hT Uj;obtain⟨i,z,i1,i2,i3,i4,i5,hg⟩:=Wc hT Uy hrow;have aO:VR E w σ.bx (.win b [] off n) (a.eval o1):=cJ;simp only[VR,hb]at aO;obtain⟨_,_,q,ys,ad,len,cap,hgp,hl,hh,hv⟩:=aO;simp only[G3,ALL,ANo]at hgp;obtain⟨rfl,hgp⟩:=hgp;obtain rfl:=AQJ hgp;simp only[I2,ALL]at hh;by_cases hn:n=0
 ·subst hn
  have ARh:(rows.take off++List.replicate 0 r.z)++rows.drop (off+0)=rows:=by simp
  rw[ARh]at e;have UZ:σ.bx.set b (.sl d r rows)=σ.bx:=by
   apply ARn;grind
  rw[UZ]at e;refine⟨.tuple #[],w,E,.c .undef,σ,.inl ?_,h,trivial,RP.refl _ _ _ _,rfl,e⟩;have hz:∃a' c',a.eval o1= .slice a' 0 c':=⟨_,_,by rw[hv];rfl⟩;obtain⟨a',c',hz⟩:=hz;simp only[execOp,ho,resolve,hc,hargs',invoke,builtin,Sem.run_bind,Sem.run_pure,Result.andThen_ok,List.map_toArray,ARf,AS4,Builtin.clear_,ht,hz];cases a'<;>simp[BR hu]
 ·obtain⟨bb,oo,cap',g1,g2,g3,g4,g5⟩:=AAl h (d:=d) hb hr hg hk hl (by omega)
  rw[g1]at hh;simp only[Value.slice.injEq]at hh;obtain⟨rfl,rfl,rfl⟩:=hh;have X8:a.eval o1= .slice (some ⟨bb,oo+off*r.n,none⟩) n (cap'-off):=by
   rw[hv];unfold VJ;rw[ALG (by omega)];simp[Addr.add]
  refine⟨.tuple #[],_,E,.c .undef,_,.inl ?_,g4,trivial,g5,rfl,e⟩;have hz:(Builtin.zeroCells z.cells n).toList=(List.replicate n (Ej r)).flatten:=by
   grind[Builtin.zeroCells,Ej,WG,Gm]
  have h1:∀v∈(List.replicate n (Ej r)).flatten,v.oneCell' =true:=fun v hv=>by
   obtain⟨l,hl1,tu⟩:=AQP.1 hv;rw[AQw hl1]at tu;exact k_ (w:=w) (S:=E.S) (d:=0) (eX hg) v tu
  have hvl:((List.replicate n (Ej r)).flatten).length=n*r.n:=by rw[G9,Gm]
  have qE:=run_storeCells_cells (P:=P) bb (oo+off*r.n) (List.replicate n (Ej r)).flatten 0 w (fun j hj=>by simpa using(g3 j (by omega)).1) (fun j hj=>by simpa using(g3 j (by omega)).2) h1;rw[AQ2]at qE;obtain⟨n',rfl⟩:∃n',n=n'+1:=⟨n-1,by omega⟩;simp only[execOp,ho,resolve,hc,hargs',invoke,builtin,Sem.run_bind,Sem.run_pure,Result.andThen_ok,List.map_toArray,ARf,AS4,Builtin.clear_,ht,X8];simp[BR hu,zeroValue,typeInfo,i1,i4,hz,qE]
end
end Go.Fw
end
section
namespace Go.Fw
theorem pM{E:Env}{w:World}{vw:List Bx}:∀{l:List XV} {bs:AAs} {vs:List Value},vp l=some bs→CR (XR E w vw) l vs→(∀b∈bs,b<vw.length)∧vs=bs.map fun b=>Value.pointer (some ⟨E.Hz b,0,none⟩)
 |[],bs,vs,e,h=>by
  simp only[vp,ALL]at e;subst e;cases vs with
  |nil=>simp_all
  |cons _ _=>exact h.elim
 |x::l,bs,vs,e,h=>by
  unfold vp at e;split at e
  ·simp_all
  ·rename_i b l' heq
   cases heq;simp only[ALN]at e;obtain⟨r,e1,rfl⟩:=e;cases vs with
   |nil=>exact h.elim
   |cons v vs=>
    obtain⟨h1,h2⟩:=h;obtain⟨k1,k2⟩:=pM e1 h2;obtain⟨h3,h4⟩:b<vw.length∧v= .pointer (some ⟨E.Hz b,0,none⟩):=h1;simp_all
  simp_all
theorem evs{E:Env}{σ:St}{a:Act}{w:World}(h:Rel E σ a w):∀l:List Operand,CR (XR E w σ.bx) (l.map σ.ev) (l.map a.eval)
 |[]=>trivial
 |x::l=>⟨h.ev x,evs h l⟩
theorem yD{E:Env}{σ:St}{a:Act}{w:World}(h:Rel E σ a w):∀o:Option Operand,OR E w σ.bx (o.map σ.ev) (o.map a.eval)
 |none=>trivial
 |some x=>h.ev x
theorem vn{w:World}{S:Nat→Prop}:∀{p:List ky} {d:Nat} {r:Ty} {h:Value} {rows:List r.D} {F:AAs} {q:Ty} {ys:List q.D} {v:Value},Ow w S d (.sl r) [h] rows F→C_ r rows p→
  G3 r rows p=some ⟨q,ys⟩→d≤p.length→I2 w h p=some v→Rd w S (.sl q) [v] ys
 |p,0,r,h,rows,F,q,ys,v,ho,hp,hg,_,hv=>by
  simp only[Ow]at ho;obtain⟨h',k,hr⟩:=mq ho.1 hp hg;simp_all
 |[],d+1,r,h,rows,F,q,ys,v,ho,hp,hg,hd,hv=>by simp_all
 |s::p,d+1,r,h,rows,F,q,ys,v,ho,hp,hg,hd,hv=>by
  simp only[C_]at hp;obtain⟨hi,PQ,hp⟩:=hp;simp only[G3]at hg;obtain⟨a,len,cap,rfl⟩:∃a len cap,h= .slice a len cap:=by
   have:=ho;simp only[Ow]at this;grind
  split at hg
  case h_2=>cases hg
  rename_i q' x' gY;rw[gY]at hp;obtain⟨b,o,arr,ty,fr,cs,G,R,rfl,hb,hu,hbd,c1,c2,c3,nG,hback⟩:=td ho hi;obtain⟨u,A1,A2,k1,k2,k3,k4⟩:=eF c3 gY;simp only[I2]at hv;rw[PQ,c2 _ _ k1]at hv;exact vn k2 hp hg (by simp_all) hv
theorem wM{E:Env}{σ:St}{a:Act}{w:World}(h:Rel E σ a w){b i sz j:Nat}{p:List ky}{va v:Value}(hva:VR E w σ.bx (.Je b p i sz j) va){x:XV}(hv:XR E w σ.bx x v)(h1c:∀u∈v.cells.toList,u.oneCell' =true)
  {σ':St} (e:L7 σ (.c (.Je b p i sz j)) x=some σ'):
  ∃bb oo E',va= .pointer (some ⟨bb,oo,none⟩)∧w.there bb oo v.cells.toList.length∧Rel E' σ' a (w.setCells bb oo v.cells.toList)∧RP [b] E σ.bx w E' σ'.bx (w.setCells bb oo v.cells.toList)∧σ'.tm.length=σ.tm.length:=by
 unfold L7 Z2 at e;split at e
 ·rename_i b0 _ _ _ _ b' s p' off n heq
  cases heq;split at e
  case isFalse=>cases e
  rename_i hbb;subst hbb;split at e
  case h_2=>cases e
  rename_i d r rows hb;simp only[ALe,ALN]at e;obtain⟨q,⟨⟨q0,ys⟩,hg,rfl⟩,e⟩:=e;dsimp only at e;have Hw:=(ALO.1 hb).1;obtain⟨F,⟨hd1,ho⟩,hB⟩:=h.bx.take hb;obtain⟨A,W,pF,ho2⟩:=KE (d:=min d (p'.length+1)) (by omega) ho;have Xx:=hB.perm (G':=A++W++[]) (by simp_all);obtain⟨hle,hB3⟩:=Xx.share
  generalize hE1:({ E with S:=fun c=>E.S c∨c∈W,T:=fun c=>E.T c∨c∈W }:Env)=E1 at hle hB3
  have ho3:Ow w E1.S (min d (p'.length+1)) (.sl r) [E1.Hy b'] rows A:=by
   rw[hle.Hy];grind
  have hB4:=hB3.put (b:=b') (B:= .sl (min d (p'.length+1)) r rows) (by simp_all) ⟨by omega,ho3⟩;rw[AUf]at hB4;have hk:Sz E w σ.bx E1 w (σ.bx.set b' (.sl (min d (p'.length+1)) r rows)):=by
   refine⟨by simp,fun _ _=>by rw[hle.Hz],hle.T,hle.S,h.bx.st,fun _ _=>rfl,fun c d' r' Cx hc e=> ?_⟩;by_cases hcb:b' =c
   ·subst hcb
    rw[AQl Hw]at e;simp only[ALL,Bx.sl.injEq]at e;obtain⟨rfl,rfl,e⟩:=e;obtain rfl:=AQJ e;exact⟨d,rows,hb,fun p hp q ys hg=>⟨hp,⟨ys,hg,rfl⟩,fun h' hh=>by rw[hle.Hy];omega⟩⟩
   ·rw[AQQ hcb]at e
    exact⟨d',Cx,e,fun p hp q ys hg=>⟨hp,⟨ys,hg,rfl⟩,fun h' hh=>by rw[hle.Hy];omega⟩⟩
  have cJ:VR E w σ.bx (.win b' (s::p') off n) v:=hv;have aO:XR E1 w (σ.bx.set b' (.sl (min d (p'.length+1)) r rows)) (.c (.sl true q0 ((ys.drop off).take n))) v:=by
   simp only[VR,hb]at cJ;obtain⟨_,hp,q1,ys1,a1,len,cap,g1,g2,g3,rfl⟩:=cJ;rw[hg]at g1;simp only[ALL,ANo]at g1;obtain⟨rfl,g1⟩:=g1;obtain rfl:=AQJ g1;have:=vn ho3 hp hg (by grind) (by rw[hle.Hy];omega);exact xh this g2
  have hr:Rel E1 { σ with bx:=σ.bx.set b' (.sl (min d (p'.length+1)) r rows) } a w:=
   ⟨h.Ns,h.tm.imp fun _ _ hx=>O_ hk hx,hB4.turn (E':=E1) (w':=w) (fun _ _ hv=>GD ⟨by simp,fun _ _=>rfl,fun _ h=>h,fun _ h=>h,hB3.st,fun _ _=>rfl,fun c d' r' Cx hc e=>by
    grind⟩ hv) (fun _ h=>h) (fun _ _=>rfl) (fun _ _=>rfl) (fun _ _ _=>rfl) fun F hF=>hF⟩
  obtain⟨bb,oo,E',q1,q2,q3,q4,q5⟩:=rr hr (GD hk hva) aO h1c e;refine⟨bb,oo,E',q1,q2,q3,⟨(hle.base w).trans q4.base,by simpa using q4.len,fun c hc=> ?_,fun c hc=> ?_,fun c B B' hct hB Tb hd=> ?_⟩,q5⟩
  ·have:=q4.ids c (by simp_all)
   exact⟨this.1.trans (by rw[hle.Hz]),this.2.trans (by rw[hle.Hy])⟩
  ·refine q4.dead c ?_
   grind
  ·have hcb:b'≠c:=fun e=>hct (by simp[e])
   obtain⟨f1,f2⟩:=q4.frame c B B' hct (by simp_all) Tb hd;refine⟨f1,fun c' cR=>f2 c' ?_⟩;cases B with
   |mem cs=>exact cR.trans (by rw[hle.Hz])
   |sl d0 r0 Rx=>simp only[wF]at cR⊢;rw[hle.Hy];omega
   |dead=>exact cR
 grind[rr]
def nM:Op→Bool
 | .call { callee:= .value _,.. }=>true
 |_=>false
section
variable{Y:Type} {P:Program} {T:Jm} (hT:En P T) {o:Oper} {E:Env} {σ:St} {a:Act} {w:World} {k:K Y} {y:Y}
include hT
theorem xS(h:Rel E σ a w){t:TypeId}{oa ox:Operand}(ho:o.op= .store t oa ox){ti:TI}(Uy:T.get t=some ti)
  (hc:(σ.ev ox).cells.length=ti.size∧ti.size≠0∧(σ.ev ox).cells.all AV.known=true) {σ':St} (hs:L7 σ (σ.ev oa) (σ.ev ox)=some σ') (e:k (.c .undef) σ' =some y):Lr P o E σ a w k y:=by
 obtain⟨c1,c2,c3⟩:=hc;have cq:(σ.ev ox).cells≠[]:=fun hh=>by simp_all
 obtain⟨Vt,h1c⟩:=n_ (h.ev ox) c3 cq;have hlen:(a.eval ox).cells.toList.length=ti.size:=by rw[←CR.len Vt];omega
 have hi:(P.info? t).map (·.size)=some (a.eval ox).cells.toList.length:=by grind[En.size]
 have hva:=h.ev oa;have fin:∀{bb oo:Nat} {E':Env},a.eval oa= .pointer (some ⟨bb,oo,none⟩)→w.there bb oo (a.eval ox).cells.toList.length→Rel E' σ' a (w.setCells bb oo (a.eval ox).cells.toList)→
   RP (Kk (fun _=>none) σ o.op) E σ.bx w E' σ'.bx (w.setCells bb oo (a.eval ox).cells.toList)→σ'.tm.length=σ.tm.length→Lr P o E σ a w k y:=by
  intro bb oo E' e1 e2 e3 e4 e5;have hr:=mT (P:=P) e2 hi h1c;refine⟨undef,_,E',.c .undef,σ',.inr ⟨?_,rfl⟩,e3,trivial,e4,e5,e⟩;grind[execOp,Sem.run_bind,Result.andThen_ok,Sem.run_pure]
 generalize hxa:σ.ev oa=xa at hs hva
 cases xa with
 |agg l=>simp[L7,Z2,gj]at hs
 |NA l=>simp[L7,Z2,gj]at hs
 |c x=>
  cases x with
  |IX b j=>
   simp only[L7,Z2,AMM,gj]at hs;split at hs
   case h_2=>cases hs
   rename_i cs hb;simp only[ALN]at hs;obtain⟨dR,hs,rfl⟩:=hs;have AWP:b<σ.bx.length∧a.eval oa= .pointer (some ⟨E.Hz b,j,none⟩):=hva;obtain⟨q1,q2,q3⟩:=z6 h hb Vt cq hs;exact fin AWP.2 q1 q2 (by grind[Kk]) rfl
  |Je b p i sz j=>
   obtain⟨bb,oo,E',q1,q2,q3,q4,q5⟩:=wM h hva (h.ev ox) h1c hs;grind[Kk]
  |_=>simp[L7,Z2,gj]at hs
omit hT in
theorem uM(h:Rel E σ a w){x:Operand}(ho:o.op= .assign x)(e:ar σ (σ.ev x) k=some y):Lr P o E σ a w k y:=by
 have hr:(execOp a.eval o).run P w= .ok (.value (a.eval x)) w:=by simp only[execOp,ho,Sem.run_pure]
 have hv:=h.ev x;unfold ar at e;split at e
 ·rename_i b off n hx
  rw[hx]at hv;simp only[ALe]at e;obtain⟨⟨r,rows,bx,d⟩,e1,e⟩:=e;dsimp only at e;have X8:VR E w σ.bx (.win b [] off n) (a.eval x):=hv;obtain⟨hd,F1,F2,k1,ho1⟩:=fT h.bx (FG.refl _) X8 e1;obtain⟨Fs0,hB1,Xx⟩:=k1.boxes;simp only[ANI]at Xx;have nd:=(AOA.1 (AOA.1 Xx.nodup).2.1).1;obtain⟨r1,r2,r3⟩:=Tg h k1 (w':=w) hd ho1 (fun c hc=> .inl (AOO.2 (.inl hc))) nd (fun c hc=>Xx.lt c (by simp[hc])) (fun _ _ _=>rfl) ⟨rfl,rfl,rfl,APM _⟩;exact⟨_,_,_,_,_,.inl hr,r1,r3,r2.any,rfl,e⟩
 ·exact Lr.same h hr hv e
theorem AAH{Γ:Nat→Option Pj}(h:Rel E σ a w)(e:XE T Γ o σ k=some y)(r9:nM o.op=false):Lr P o E σ a w k y:=by
 have same:∀{v:Value} {x:XV},(execOp a.eval o).run P w= .ok (.value v) w→XR E w σ.bx x v→k x σ=some y→Lr P o E σ a w k y:=fun h1 h2 h3=>Lr.same h h1 h2 h3
 obtain⟨Fs,hB,hS⟩:=h.bx;have st:=hS.st;unfold XE at e;split at e
 ·rename_i x ho
  exact same (v:=a.eval x) (by grind[execOp,Sem.run_pure]) (h.ev x) e
 ·grind[uM]
 ·rename_i c xa xb ho
  split at e
  case h_2=>cases e
  rename_i p hp;have hc:=h.ev c;rw[hp]at hc;have cR:=SC (E:=E) (w:=w) (vw:=σ.bx) hc;refine same (v:=if p then a.eval xa else a.eval xb) (x:=if p then σ.ev xa else σ.ev xb) (by simp[execOp,ho,cR,asBool]) (by cases p<;>simp[h.ev]) ?_
  grind[ABa]
 ·grind[wO]
 ·grind[ADT]
 ·grind[w7]
 ·grind[mY]
 ·rename_i t x ho
  split at e
  case h_2=>cases e
  rename_i z hz;obtain⟨u,h1,h2⟩:=vY hT hB st hz (h.ev x);grind[execOp,Sem.run_bind,Result.andThen_ok,Sem.run_pure]
 ·grind[xS]
 ·rename_i x ho
  have hx:=h.ev x;split at e
  ·rename_i b j hp
   rw[hp]at hx;have hx':b<σ.bx.length∧a.eval x= .pointer (some ⟨E.Hz b,j,none⟩):=hx;grind[execOp,Sem.run_pure]
  ·rename_i b p i sz j hp
   rw[hp]at hx;have hpt:bn (a.eval x)=true:=hx.1;grind[bn,execOp,Sem.run_pure]
  ·rename_i s r z j hp
   rw[hp]at hx;obtain⟨bb,oo,cs,hv,hrest⟩:=hx;exact same (v:=a.eval x) (x:= .c (.PO s r z j)) (by grind[execOp,Sem.run_pure]) ⟨bb,oo,cs,hv,hrest⟩ e
  ·rename_i f Kg hp
   rw[hp]at hx;have hx':(∀b∈Kg,b<σ.bx.length)∧a.eval x= .func (.func f) #[] (Kg.map fun b=>Value.pointer (some ⟨E.Hz b,0,none⟩)).toArray:=hx;grind[execOp,Sem.run_pure]
  simp_all
 ·rename_i op t x z s ho
  obtain⟨r,val,h1,h2,h3⟩:=gU hT e (h.ev x) (h.ev z) x z;exact same (v:=val) (x:= .c r) (by
   simp only[execOp,ho,Sem.run_bind];simp_all) h3 h1
 ·rename_i op t x ho
  obtain⟨r,val,h1,h2,h3⟩:=jz (P:=P) e (h.ev x);exact same (v:=val) (x:= .c r) (by grind[execOp,Sem.run_bind,Result.andThen_ok,Sem.run_pure]) h3 h1
 ·grind[zd]
 ·rename_i f first Kg ho
  split at e
  case isFalse=>cases e
  rename_i hf;split at e
  case h_2=>cases e
  rename_i bs hbs;obtain⟨q1,q2⟩:=pM hbs (evs h Kg.toList);have AV1:first.map a.eval= #[]:=by
   simp_all
  have AZf:Kg.map a.eval=(bs.map fun b=>Value.pointer (some ⟨E.Hz b,0,none⟩)).toArray:=by
   grind
  refine same (v:= .func (.func f) #[] (bs.map fun b=>Value.pointer (some ⟨E.Hz b,0,none⟩)).toArray) ?_ (x:= .c (.fn f bs)) ⟨q1,rfl⟩ e
  grind[execOp,Instr.makeFunc,Sem.run_bind,Sem.run_pure,Result.andThen_ok]
 ·grind[zM]
 ·rename_i t x lo hi ho
  obtain⟨z,val,h1,h2,h3⟩:=iO hT hB st e (h.ev x) (yD h lo) (yD h hi);grind[execOp,Sem.run_bind,Result.andThen_ok,Sem.run_pure]
 ·rename_i t x f ho
  split at e
  case h_2=>cases e
  rename_i z hz;obtain⟨u,h1,h2⟩:=iu hT hz (h.ev x);grind[execOp,Sem.run_bind,Result.andThen_ok,Sem.run_pure]
 ·rename_i t x f ho
  split at e
  case h_2=>cases e
  rename_i z hz;obtain⟨u,h1,h2⟩:=lh hT hz (h.ev x);grind[execOp,Sem.run_bind,Result.andThen_ok,Sem.run_pure]
 ·rename_i t x i ho
  obtain⟨z,val,h1,h2,h3⟩:=iJ hT hB st e (h.ev x) (h.ev i);grind[execOp,Sem.run_bind,Result.andThen_ok,Sem.run_pure]
 ·rename_i t x i ho
  obtain⟨z,val,h1,h2,h3⟩:=bo hT e (h.ev x) (h.ev i);grind[execOp,Sem.run_bind,Result.andThen_ok,Sem.run_pure]
 ·rename_i x i ho
  split at e
  case h_2=>cases e
  rename_i z hz;obtain⟨u,h1,h2⟩:=d_ (P:=P) hz (h.ev x);grind[execOp,Sem.run_bind,Result.andThen_ok,Sem.run_pure]
 ·rename_i f args qi ho
  rw[ho]at r9;cases r9
 ·rename_i args qi ho
  split at e
  ·rename_i s t IP hts
   obtain⟨x,rfl,hx⟩:=Xe IP;have hv:=h.ev x;rw[hx]at hv;have X8:=Ww (E:=E) (w:=w) (vw:=σ.bx) hv;split at e
   case isFalse=>cases e
   rename_i hs;have hu:=XS hT hs;refine same (v:= .int .i64 (s.length:Int)) (x:= .c (.v (.int .i64) (s.length:Int))) ?_ (VR.int (E:=E) (vw:=σ.bx) _ _) e
   have PQ:(⟨s.toArray⟩:ByteArray).size=s.length:=by rfl
   simp[execOp,ho,resolve,invoke,builtin,Builtin.len_,hts,X8,BR hu,goInt,PQ]
  ·rename_i z t _ IP hts
   obtain⟨x,rfl,hx⟩:=Xe IP;have hv:=h.ev x;rw[hx]at hv;split at e
   case isFalse=>cases e
   rename_i hs;split at e
   case h_2=>cases e
   rename_i n hn;obtain⟨el,hu⟩:=kg hT hs;obtain⟨ad,cap,X8⟩:=lF hB st hn hv;refine same (v:= .int .i64 (n:Int)) (x:= .c (.v (.int .i64) (n:Int))) ?_ (VR.int (E:=E) (vw:=σ.bx) _ _) e
   simp[execOp,ho,resolve,invoke,builtin,Builtin.len_,hts,X8,BR hu,goInt]
  simp_all
 ·rename_i args qi ho
  split at e
  case h_2=>cases e
  rename_i x1 x2 IP;exact vm hT h ho rfl IP e
 ·rename_i args qi ho
  split at e
  case h_2=>cases e
  rename_i x IP;exact xc hT h ho rfl IP e (fun b p off n hx=>by grind[Kk])
 ·rename_i args qi ho
  split at e
  case h_2=>cases e
  rename_i x1 x2 IP;obtain⟨o1,o2,rfl,hx1,hx2⟩:=W4 IP;have cJ:=h.ev o1;have aO:=h.ev o2;rw[hx1]at cJ;rw[hx2]at aO;obtain⟨r,val,h1,h2,h3⟩:=Te (P:=P) (big:=true) e cJ aO qi #[] o.type;simp only[AQV]at h2;exact same (v:=val) (x:= .c r) (by simp[execOp,ho,resolve,invoke,builtin,h2]) h3 h1
 ·rename_i args qi ho
  split at e
  case h_2=>cases e
  rename_i x1 x2 IP;obtain⟨o1,o2,rfl,hx1,hx2⟩:=W4 IP;have cJ:=h.ev o1;have aO:=h.ev o2;rw[hx1]at cJ;rw[hx2]at aO;obtain⟨r,val,h1,h2,h3⟩:=Te (P:=P) (big:=false) e cJ aO qi #[] o.type;simp only[AL6,APB]at h2;exact same (v:=val) (x:= .c r) (by simp[execOp,ho,resolve,invoke,builtin,h2]) h3 h1
 simp_all
end
end Go.Fw
end
