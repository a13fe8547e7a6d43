/- The framework, part 1: a checked interpreter of the model's code over abstract states; no claim is made here. -/
import Derived.Calls
import Derived.Still
import Derived.Laws.World
import Derived.Laws.AppendOwn
import Derived.RowKit3
import Derived.Deep.MidRow
import Derived.Laws.StructEq
import Derived.Lib.ConvBytes
import Derived.Laws.BytesArg
import Derived.Tactics
import Derived.OrdersHeld
import Derived.ChangeArms
import Derived.ChangeOld
import Derived.DataReads
import Derived.Below
import Derived.Shelf.Spec.SlicesInsertGrow
import Derived.Shelf.Slices.Delete
set_option linter.unusedVariables false
set_option linter.unusedSimpArgs false
set_option linter.unusedSectionVars false
abbrev AC9:Type:=Int × Int × Bool × List UInt8 × Unit
abbrev AHP:Type:=List UInt8 × List Int × Bool × Unit
abbrev AF5:Type:=List Int × Bool × Int × Unit
abbrev AFj:Type:=Int × Int × List UInt8 × Unit
abbrev AEe:Type:=Int × List UInt8 × Bool × Unit
abbrev ADJ:Type:=Unit × Int × Unit × Unit × Unit × Int × Unit × Unit × Unit × Unit × Bool × Unit
abbrev AAO:Type:=List Int
abbrev AIm:Type:=Int × Bool × Int × Int × Bool × List UInt8 × Unit
abbrev AC3:Type:=Int × Int × Int × Int × List UInt8 × Unit
abbrev ABG:Type:=Bool × Unit
abbrev AA9:Type:=List Int × Int × Unit
abbrev ABN:Type:=Int × Unit
abbrev ADE:Type:=List Int × Int × Int × Unit
abbrev AHu:Type:=Int × Int × Unit × Unit × Bool × Unit × Unit
abbrev AHo:Type:=Unit × Unit × Int × Unit
abbrev ACW:Type:=Unit × Unit
abbrev ACj:Type:=List Int × Unit
abbrev AA4:Type:=List Nat
abbrev AGH:Type:=Unit × Int × Unit
abbrev AGI:Type:=Int × Int × Unit × Unit
abbrev AGG:Type:=Int × Unit × Unit
abbrev AIk:Type:=Int × Bool × Unit
abbrev AC7:Type:=Nat × Nat
abbrev AGA:Type:=Unit × List Int × Unit
abbrev AF9:Type:=Nat × List Nat
abbrev ACC:Type:=List UInt8
abbrev AGB:Type:=List UInt8 × Unit
abbrev ABH:Type:=Int × Int × List Int × List AC9 × Bool × List AAO × Unit
abbrev ACN:Type:=List AC9 × List AC9 × Int × Unit
abbrev AC8:Type:=Int × Int × List AFj × Unit
abbrev ACF:Type:=Int × List AHP × Unit
abbrev AAw:Type:=List AC9
abbrev AAS:Type:=List AF5
abbrev AAk:Type:=List AEe
abbrev ABr:Type:=List AF5 × Int × Unit
abbrev AJE:Type:=ADJ × Int × Unit
abbrev AJG:Type:=AHo × Bool × Unit
abbrev ACA:Type:=List AHP
abbrev AJN:Type:=AHu × Bool × Unit
abbrev ADl:Type:=ADE × Unit
abbrev ADC:Type:=List AFj
abbrev AKK:Type:=AGG × Bool × Unit
abbrev AJf:Type:=AGH × Bool × Unit
abbrev AJV:Type:=AC9 × Bool × Unit
abbrev AEH:Type:=AIk × Unit
abbrev ADB:Type:=List AC3
abbrev ACx:Type:=List AIm
abbrev AF_:Type:=ADE × List Int × Unit
abbrev AFP:Type:=AGH × Unit
abbrev AFW:Type:=AHu × Unit
abbrev AF6:Type:=AGI × Unit
abbrev AC_:Type:=ABN × Unit
abbrev AF8:Type:=AC3 × Unit
abbrev AF7:Type:=ADJ × Unit
abbrev AGM:Type:=AGG × Int × Bool × Unit
abbrev AGL:Type:=AGH × Int × Bool × Unit
abbrev AGD:Type:=AGG × Unit
abbrev AGC:Type:=AHo × Unit
abbrev AHL:Type:=ADJ × Unit × Unit
abbrev AGK:Type:=AGI × Int × Unit
abbrev ABF:Type:=List Int × Int × List ACN × List Int × List AF5 × Int × List ACF × List ABH × List AC8 × List AEe × Bool × Unit
abbrev AAP:Type:=List ACN
abbrev AAr:Type:=List ACF
abbrev AAs:Type:=List AC8
abbrev AAv:Type:=List ABH
abbrev ADG:Type:=List Int × AAw × List AAO × Unit
abbrev ADF:Type:=AAw × AAw × Unit
abbrev ADA:Type:=AJE × Unit
abbrev ADH:Type:=AJG × Unit
abbrev ADz:Type:=AJN × Unit
abbrev ADw:Type:=ACA × Unit
abbrev ADs:Type:=AAS × Unit
abbrev AFJ:Type:=ADC × Unit
abbrev AFH:Type:=AAw × Unit
abbrev AFY:Type:=AJV × Unit
abbrev AFt:Type:=AJf × Unit
abbrev AFn:Type:=AKK × Unit
abbrev AGE:Type:=Unit × AAw × Unit
abbrev AGJ:Type:=AGI × Unit × ADC × Unit
abbrev ADD:Type:=List Int × AAP × List Int × AAS × AAr × AAv × AAs × AAk × Unit
abbrev ADI:Type:=ADJ × List Int × AAP × List Int × AAS × AAr × AAv × AAs × AAk × Unit
abbrev AGF:Type:=List Int × Int × AAP × List Int × AAS × Int × AAr × AAv × AAs × AAk × Bool × Unit
abbrev AGT:Type:=ADJ × List Int × AAP × Unit × AAS × AAr × AAv × AAs × AAk × List Int × Unit
abbrev AHN:Type:=List Int × AAP × List Int × AAS × AAr × AAv × AAs × AAk × List Int × Unit
abbrev AGN:Type:=List Int × AAP × Unit × AAS × AAr × AAv × AAs × AAk × List Int × Unit
abbrev AGO:Type:=AAP × AAw × AAw × Unit
abbrev AKU:=@Bool.eq_false_or_eq_true
abbrev ALy:=@if_pos
abbrev AL5:=@List.getElem?_eq_getElem
abbrev AMD:=@if_neg
abbrev AMF:=@Option.some.injEq
abbrev AMI:=@Option.map_eq_some_iff
abbrev AMK:=@List.getElem?_eq_some_iff
abbrev AML:=@Bool.and_eq_true
abbrev AMO:=@Bool.false_eq_true
abbrev AMP:=@Bool.not_true
abbrev AMQ:=@Option.bind_eq_some_iff
abbrev AMU:=@cond_false
abbrev AMV:=@Int.toNat_natCast
abbrev AMc:=@decide_eq_true_eq
abbrev AMh:=@List.getElem_mem
abbrev AMj:=@List.drop_eq_nil_of_le
abbrev AMk:=@Bool.true_and
abbrev AMp:=@cond_true
abbrev AMv:=@Option.bind_some
abbrev AM5:=@List.append_nil
abbrev AM8:=@List.append_assoc
abbrev AM9:=@Sigma.mk.injEq
abbrev ANN:=@List.nodup_append
abbrev ANZ:=@List.length_cons
abbrev ANd:=@List.getElem?_append_left
abbrev ANi:=@List.mem_of_getElem?
abbrev ANr:=@List.getElem?_append_right
abbrev ANv:=@List.mem_cons
abbrev AOR:=@if_false
abbrev AOr:=@Nat.mul_le_mul_right
abbrev AOs:=@List.mem_append
abbrev APB:=@List.length_append
abbrev APC:=@Bool.not_eq_true
abbrev APY:=@Bool.not_eq_false'
abbrev APv:=@Prod.mk.injEq
abbrev AQJ:=@beq_eq_false_iff_ne
abbrev AQO:=@List.eq_nil_of_length_eq_zero
abbrev AQW:=@Nat.le_refl
abbrev AQZ:=@List.length_nil
abbrev AQa:=@List.getElem_of_mem
abbrev AQj:=@List.cons.injEq
abbrev ARf:=@List.pairwise_cons
abbrev ARx:=@eq_of_heq
abbrev ASJ:=@List.getElem?_map
abbrev ASn:=@decide_eq_true
abbrev ASs:=@Nat.le_trans
abbrev ASw:=@List.mem_flatten
abbrev AS4:=@List.getElem?_set_ne
abbrev AS5:=@Bool.not_false
abbrev AS6:=@List.length_filter_le
abbrev AS7:=@Bool.false_or
abbrev AS8:=@Bool.or_eq_true
abbrev AS9:=@Bool.not_eq_true'
abbrev AS_:=@if_true
abbrev ATA:=@List.nil_append
abbrev ATB:=@Nat.lt_of_lt_of_le
abbrev ATC:=@List.drop_zero
abbrev ATD:=@Int.le_refl
abbrev ATE:=@Bool.false_and
abbrev ATF:=@List.map_congr_left
abbrev ATG:=@and_true
abbrev ATH:=@List.take_of_length_le
abbrev ATI:=@List.filter_cons
abbrev ATJ:=@List.take_succ_eq_append_getElem
abbrev ATK:=@Option.getD_some
abbrev ATL:=@List.mem_filter
abbrev ATM:=@decide_eq_false
abbrev ATN:=@Option.isSome_none
abbrev ATO:=@Option.isSome_some
abbrev ATP:=@List.getElem?_eq_none
abbrev ATQ:=@beq_iff_eq
abbrev ATR:=@List.mem_or_eq_of_mem_set
abbrev ATS:=@List.mem_map
abbrev ATT:=@List.getElem?_set_self
abbrev ATU:=@Nat.zero_add
abbrev ATV:=@List.all_eq_true
abbrev ATW:=@Bool.and_true
abbrev ATX:=@Bool.eq_false_iff
abbrev ATY:=@List.mem_singleton
abbrev ATZ:=@List.mem_of_find?_eq_some
abbrev ATa:=@List.all_cons
abbrev ATn:=@Nat.add_mul
abbrev ATo:=@List.flatten_append
abbrev ATu:=@List.eq_of_mem_replicate
abbrev ATy:=@List.singleton_append
abbrev AT8:=@Nat.add_assoc
abbrev AUA:=@decide_eq_false_iff_not
abbrev AUB:=@List.drop_length
abbrev AUJ:=@List.flatten_cons
abbrev AUN:=@Nat.add_zero
abbrev AUg:=@List.length_set
abbrev AUh:=@List.find?_cons
abbrev AUo:=@List.map_map
abbrev AUr:=@Option.bind_assoc
abbrev AUx:=@Option.map_some
abbrev AU0:=@Int.toNat_of_nonneg
abbrev AU4:=@List.Perm.append_right
abbrev AU5:=@List.getElem_cons_zero
abbrev AVJ:=@List.map_cons
abbrev AVf:=@List.contains_iff_mem
abbrev AVi:=@Nat.le_of_lt
abbrev AVq:=@List.pairwise_iff_getElem
abbrev AVs:=@List.mem_of_mem_drop
abbrev AVx:=@List.ext_getElem?
abbrev AWN:=@Array.length_toList
abbrev AWR:=@Nat.sub_mul
abbrev AWU:=@List.getElem?_cons_succ
abbrev AWW:=@List.cons_append
abbrev AWd:=@List.flatten_nil
abbrev AWf:=@List.length_drop
abbrev AWg:=@List.length_take
abbrev AWk:=@Option.map_eq_none_iff
abbrev AWm:=@List.getElem?_drop
abbrev AWn:=@List.getElem?_take
abbrev AWs:=@List.Perm.append_left
abbrev AWy:=@List.length_replicate
abbrev AW6:=@List.nodup_cons
abbrev AXA:=@Array.getD_eq_getD_getElem?
abbrev AXB:=@List.getElem_set_self
abbrev AXC:=@Decidable.not_not
abbrev AXD:=@List.pairwise_map
abbrev AXE:=@List.exists_cons_of_length_eq_add_one
abbrev AXF:=@List.mem_of_mem_take
abbrev AXG:=@Bool.and_false
abbrev AXH:=@Classical.byContradiction
abbrev AXI:=@List.map_nil
abbrev AXJ:=@List.set_cons_zero
abbrev AXK:=@List.length_map
abbrev AXL:=@List.length_eq_zero_iff
abbrev AXM:=@Int.eq_ofNat_of_zero_le
abbrev AXN:=@Nat.eq_zero_or_pos
abbrev AXO:=@Array.size_append
abbrev AXP:=@List.size_toArray
abbrev AXQ:=@Nat.zero_le
abbrev AXR:=@dite_true
abbrev AXS:=@List.set_append_right
abbrev AXT:=@Bool.true_or
abbrev AXU:=@beq_self_eq_true
abbrev AXV:=@List.mem_cons_of_mem
abbrev AXW:=@Bool.or_false
abbrev AXX:=@List.length_pos_iff
abbrev AXY:=@List.find?_some
abbrev AXZ:=@List.filter_nil
abbrev AXa:=@List.drop_set_of_lt
abbrev AXb:=@List.take_set_of_le
abbrev AXc:=@List.set_set
abbrev AXd:=@Nat.sub_self
abbrev AXe:=@List.Perm.refl
abbrev AXf:=@List.mapM_cons
abbrev AXg:=@Nat.mul_le_mul
abbrev AXh:=@List.take_zero
abbrev AXi:=@not_or
section
namespace Go.Fw
inductive Ty where
 |int (k:IntKind)|bool|str|sl (r:Ty)|unit|cons (c r:Ty)
 deriving DecidableEq
@[reducible] def Ty.D:Ty→Type
 | .int _=>Int
 | .bool=>Bool
 | .str=>List UInt8
 | .sl r=>List r.D
 | .unit=>Unit
 | .cons c r=>c.D×r.D
def Ty.n:Ty→Nat
 | .unit=>0
 | .cons _ r=>r.n+1
 |_=>1
def Ty.z:(t:Ty)→t.D
 | .int _=>(0:Int)
 | .bool=>false
 | .str=>[]
 | .sl _=>[]
 | .unit=>()
 | .cons c r=>(c.z,r.z)
def Ty.flat:Ty→Bool
 | .sl _=>false
 | .cons c r=>c.flat&&r.flat
 |_=>true
def Ty.scalar:Ty→Bool
 | .int _| .bool| .str=>true
 |_=>false
structure WN where
 i:Nat
 sz:Nat
 j:Nat
inductive AV where
 |v (t:Ty) (x:t.D)
 |sl (s:Bool) (r:Ty) (x:List r.D)
 |nil
 |ref (b:Nat) (p:List WN)
 |win (b:Nat) (p:List WN) (off n:Nat)
 |IC (b j:Nat)
 |JQ (b:Nat) (p:List WN) (i sz j:Nat)
 |PE (s:Bool) (r:Ty) (x:r.D) (j:Nat)
 |fn (f:Nat) (J8:AA4)
 |qt (f:Nat) (rows:List ((r:Ty)×r.D))
 |yW
 |undef
def AV.known:AV→Bool
 | .undef=>false
 |_=>true
inductive XV where
 |c (x:AV)
 |agg (l:List AV)
 |MH (l:List (AV ⊕ List AV))
inductive Bx where
 |mem (cs:List AV)
 |sl (d:Nat) (r:Ty) (rows:List r.D)
 |dead
structure St where
 tm:List XV
 bx:List Bx
def BR:(r:Ty)→(j:Nat)→r.D→Option ((t:Ty)×t.D)
 | .cons c _,0,x=>some ⟨c,x.1⟩
 | .cons _ r,j+1,x=>BR r j x.2
 | .unit,_,_=>none
 | .int k,0,x=>some ⟨.int k,x⟩
 | .bool,0,x=>some ⟨.bool,x⟩
 | .str,0,x=>some ⟨.str,x⟩
 | .sl r,0,x=>some ⟨.sl r,x⟩
 |_,_+1,_=>none
def qe{a b:Ty}(h:a=b)(x:a.D):b.D:=h▸x
def D6:(r:Ty)→(j:Nat)→r.D→(t:Ty)→t.D→Option r.D
 | .cons c _,0,x,t,y=>if h:t=c then some (qe h y,x.2)else none
 | .cons _ r,j+1,x,t,y=>(D6 r j x.2 t y).map fun z=>(x.1,z)
 | .unit,_,_,_,_=>none
 | .int k,0,_,t,y=>if h:t= .int k then some (qe h y)else none
 | .bool,0,_,t,y=>if h:t= .bool then some (qe h y)else none
 | .str,0,_,t,y=>if h:t= .str then some (qe h y)else none
 | .sl r,0,_,t,y=>if h:t= .sl r then some (qe h y)else none
 |_,_+1,_,_,_=>none
def rowAt(r:Ty)(rows:List r.D)(i:Nat):r.D:=rows.getD i r.z
def Gy:(r:Ty)→List r.D→List WN→Option ((q:Ty)×List q.D)
 |r,rows,[]=>some ⟨r,rows⟩
 |r,rows,s::p=>
  match BR r s.j (rowAt r rows s.i)with
  |some ⟨.sl q,x⟩=>Gy q x p
  |_=>none
def o5:(r:Ty)→List r.D→List WN→(q:Ty)→List q.D→Option (List r.D)
 |r,_,[],q,y=>if h:q=r then some (qe (congrArg Ty.sl h) y)else none
 |r,rows,s::p,q,y=>
  match BR r s.j (rowAt r rows s.i)with
  |some ⟨.sl r',x⟩=>(o5 r' x p q y).bind fun x' =>(D6 r s.j (rowAt r rows s.i) (.sl r') x').map fun row=>rows.set s.i row
  |_=>none
inductive TD where
 |int (k:IntKind)|bool|str|sl (e:Nat)|st (fs:List AC7)|ptr (e:Nat)|other
structure TI where
 size:Nat
 bytes:Nat
 desc:TD
 row:Option Ty
abbrev JY:=List (Nat×TI)
def JY.get:JY→Nat→Option TI
 |[],_=>none
 |(u,i)::l,t=>if u=t then some i else JY.get l t
def TD.agg:TD→Bool
 | .st _=>true
 |_=>false
def JY.jT(T:JY)(t:Nat):Option Ty:=
 match T.get t with
 |some ti=>ti.row
 |none=>none
def zj:Ty→AV
 | .int k=> .v (.int k) (0:Int)
 | .bool=> .v .bool false
 | .str=> .v .str []
 | .sl _=> .nil
 |_=> .undef
def ay:Ty→List AV
 | .cons c r=>zj c::ay r
 | .unit=>[]
 |t=>[zj t]
def qo:Value→AV
 | .int k n=> .v (.int k) n
 | .bool b=> .v .bool b
 | .string s=> .v .str s.data.toList
 | .slice none 0 0=> .nil
 | .pointer none=> .yW
 |_=> .undef
def ofValue:Value→XV
 | .agg cs=> .agg (cs.toList.map qo)
 |v=> .c (qo v)
def St.ev(σ:St):Operand→XV
 | .tmp t=>σ.tm.getD t (.c .undef)
 | .const v=>ofValue v
 | .global _=> .c .undef
 | .func f=> .c (.fn f [])
def St.put(σ:St)(dst:Option Tmp)(x:XV):St:=
 match dst with
 |some d=>{ σ with tm:=σ.tm.set d x }
 |none=>σ
def XV.cells:XV→List AV
 | .c x=>[x]
 | .agg l=>l
 | .MH _=>[]
def QH{β:Ty→Type}(a b:Ty)(x:β a):Option (β b):=if h:a=b then some (h▸x)else none
def M_(bx:List Bx):AV→Option ((r:Ty)×List r.D)
 | .sl _ r x=>some ⟨r,x⟩
 | .ref b p=>
  match bx[b]? with
  |some (.sl _ r rows)=>Gy r rows p
  |_=>none
 | .win b p off n=>
  match bx[b]? with
  |some (.sl _ r rows)=>(Gy r rows p).map fun q=>⟨q.1,(q.2.drop off).take n⟩
  |_=>none
 |_=>none
def Mb(bx:List Bx)(t:Ty)(x:AV):Option t.D:=
 match x with
 | .v u y=>QH (β:=Ty.D) u t y
 | .nil=>match t with
  | .sl _=>some []
  |_=>none
 |x=>match t with
  | .sl r=>(M_ bx x).bind fun q=>QH (β:=fun r=>List r.D) q.1 r q.2
  |_=>none
def Ho(bx:List Bx):(r:Ty)→List AV→Option r.D
 | .unit,[]=>some ()
 | .cons c r,x::l=>(Mb bx c x).bind fun a=>(Ho bx r l).map fun b=>(a,b)
 |_,_=>none
def lenOf(bx:List Bx):AV→Option Nat
 | .nil=>some 0
 | .sl _ _ x=>some x.length
 | .ref b p=>
  match bx[b]? with
  |some (.sl _ r rows)=>(Gy r rows p).map fun q=>q.2.length
  |_=>none
 | .win b _ _ n=>
  match bx[b]? with
  |some (.sl _ _ _)=>some n
  |_=>none
 |_=>none
inductive AP where
 |v (t:Ty)
 |sl (s:Bool) (r:Ty)
 |nil
 |ref (i:Nat)
 |ptr (i j:Nat)
 |my (r:Ty)
 |fn (f:Nat) (J8:AA4)
 |qt (f:Nat) (rs:List Ty)
 |any
 |kY (i sz:Nat)
inductive XP where
 |c (p:AP)
 |agg (l:List AP)
 |row (r:Ty)
 |MH (l:List (AP ⊕ List AP))
inductive BP where
 |mem (l:List AP)
 |sl (d:Nat) (r:Ty)
 |gone
structure Ba where
 Dy:List (Nat×XP)
 Gr:List BP
@[reducible] def ZB:List Ty→Type
 |[]=>Unit
 |r::l=>r.D×ZB l
def ZB.mk:(l:List Ty)→ZB l→List ((r:Ty)×r.D)
 |[],_=>[]
 |r::l,x=>⟨r,x.1⟩::ZB.mk l x.2
@[reducible] def AP.V:AP→Type
 | .qt _ rs=>ZB rs
 | .v t=>t.D
 | .sl _ r=>List r.D
 | .my r=>r.D
 | .kY _ _=>Nat×Nat
 |_=>Unit
@[reducible] def Xi.V:List AP→Type
 |[]=>Unit
 |p::l=>p.V×Xi.V l
@[reducible] def Ya.V:List (AP ⊕ List AP)→Type
 |[]=>Unit
 | .inl p::l=>p.V×Ya.V l
 | .inr q::l=>Xi.V q×Ya.V l
@[reducible] def XP.V:XP→Type
 | .c p=>p.V
 | .agg l=>Xi.V l
 | .row r=>r.D
 | .MH l=>Ya.V l
@[reducible] def BP.V:BP→Type
 | .mem l=>Xi.V l
 | .sl _ r=>List r.D
 | .gone=>Unit
@[reducible] def Gt.V:List (Nat×XP)→Type
 |[]=>Unit
 |(_,p)::l=>p.V×Gt.V l
@[reducible] def Jb.V:List BP→Type
 |[]=>Unit
 |p::l=>p.V×Jb.V l
@[reducible] def Ba.V (s:Ba):Type:=Gt.V s.Dy×Jb.V s.Gr
def AP.mk(m:Nat→Nat):(p:AP)→p.V→AV
 | .v t,x=> .v t x
 | .sl s r,x=> .sl s r x
 | .nil,_=> .nil
 | .ref i,_=> .ref (m i) []
 | .ptr i j,_=> .IC (m i) j
 | .my r,x=> .PE false r x 0
 | .fn f J8,_=> .fn f (J8.map m)
 | .qt f rs,x=> .qt f (ZB.mk rs x)
 | .any,_=> .undef
 | .kY i sz,k=> .ref (m i) [⟨k.1,sz,k.2⟩]
def Xi.mk(m:Nat→Nat):(l:List AP)→Xi.V l→List AV
 |[],_=>[]
 |p::l,x=>p.mk m x.1::Xi.mk m l x.2
def pD:(r:Ty)→r.D→List AV
 | .unit,_=>[]
 | .cons c r,x=>(match c,x.1 with
  | .sl q,y=>AV.sl false q y
  |c,y=> .v c y)::pD r x.2
 | .sl q,x=>[.sl false q x]
 | .int k,x=>[.v (.int k) x]
 | .bool,x=>[.v .bool x]
 | .str,x=>[.v .str x]
def Ya.mk(m:Nat→Nat):(l:List (AP ⊕ List AP))→Ya.V l→List (AV ⊕ List AV)
 |[],_=>[]
 | .inl p::l,x=> .inl (p.mk m x.1)::Ya.mk m l x.2
 | .inr q::l,x=> .inr (Xi.mk m q x.1)::Ya.mk m l x.2
def XP.mk(m:Nat→Nat):(p:XP)→p.V→XV
 | .c p,x=> .c (p.mk m x)
 | .agg l,x=> .agg (Xi.mk m l x)
 | .row r,x=> .agg (pD r x)
 | .MH l,x=> .MH (Ya.mk m l x)
def BP.mk(m:Nat→Nat):(p:BP)→p.V→Bx
 | .mem l,x=> .mem (Xi.mk m l x)
 | .sl d r,x=> .sl d r x
 | .gone,_=> .dead
def Gt.mk(m:Nat→Nat):(l:List (Nat×XP))→Gt.V l→List XV→List XV
 |[],_,tm=>tm
 |(i,p)::l,x,tm=>Gt.mk m l x.2 (tm.set i (p.mk m x.1))
def Jb.mk(m:Nat→Nat):(l:List BP)→Jb.V l→List Bx
 |[],_=>[]
 |p::l,x=>p.mk m x.1::Jb.mk m l x.2
def Ba.st(s:Ba)(n:Nat)(x:s.V):St:=
 { tm:=Gt.mk id s.Dy x.1 (List.replicate n (.c .undef)),bx:=Jb.mk id s.Gr x.2 }
abbrev PK:=List (Option Nat)
def PK.put(m:PK)(i b:Nat):Option PK:=
 match m[i]? with
 |some none=>if m.contains (some b)then none else some (m.set i (some b))
 |some (some b')=>if b' =b then some m else none
 |none=>none
def bM:PK→List Nat→List Nat→Option PK
 |m,[],[]=>some m
 |m,i::is,b::bs=>(m.put i b).bind fun m=>bM m is bs
 |_,_,_=>none
def AP.NZ(N:Nat)(m:PK):AP→AV→Option PK
 | .ref i,.ref b []=>m.put i b
 | .ref i,.nil=>m.put i (N+i)
 | .ref _,_=>none
 | .kY i sz,.ref b [s]=>if s.sz=sz then m.put i b else none
 | .kY _ _,_=>none
 | .ptr i j,.IC b j' =>if j=j' then m.put i b else none
 | .ptr _ _,_=>none
 | .fn f J8,.fn g bs=>if f=g then bM m J8 bs else none
 | .fn _ _,_=>none
 | .nil,.nil=>some m
 | .nil,_=>none
 |_,_=>some m
def Xi.NZ(N:Nat):PK→List AP→List AV→Option PK
 |m,[],[]=>some m
 |m,p::l,x::xs=>(p.NZ N m x).bind fun m=>Xi.NZ N m l xs
 |_,_,_=>none
def Ya.NZ(N:Nat):PK→List (AP ⊕ List AP)→List (AV ⊕ List AV)→Option PK
 |m,[],[]=>some m
 |m,.inl p::l,.inl x::xs=>(p.NZ N m x).bind fun m=>Ya.NZ N m l xs
 |m,.inr p::l,.inr x::xs=>(Xi.NZ N m p x).bind fun m=>Ya.NZ N m l xs
 |_,_,_=>none
def XP.NZ(N:Nat)(m:PK):XP→XV→Option PK
 | .c p,.c x=>p.NZ N m x
 | .agg l,.agg xs=>Xi.NZ N m l xs
 | .row _,.agg _=>some m
 | .MH l,.MH xs=>Ya.NZ N m l xs
 |_,_=>none
def Gt.NZ(N:Nat)(tm:List XV):PK→List (Nat×XP)→Option PK
 |m,[]=>some m
 |m,(i,p)::l=>
  match tm[i]? with
  |some x=>(p.NZ N m x).bind fun m=>Gt.NZ N tm m l
  |none=>none
def Jb.NZ(N:Nat)(bx:List Bx):Nat→PK→List BP→Option PK
 |_,m,[]=>some m
 |i,m,.mem l::ps=>
  match m[i]? with
  |some (some b)=>
   match bx[b]? with
   |some (.mem cs)=>(Xi.NZ N m l cs).bind fun m=>Jb.NZ N bx (i+1) m ps
   |_=>none
  |_=>none
 |i,m,.sl _ _::ps=>
  match m[i]? with
  |some (some _)=>Jb.NZ N bx (i+1) m ps
  |_=>none
 |i,m,.gone::ps=>Jb.NZ N bx (i+1) m ps
def Ct(bx:List Bx):PK→List Bx
 |[]=>bx
 |some b::m=>Ct (bx.set b .dead) m
 |none::m=>Ct bx m
def ZB.nw:(l:List Ty)→List ((r:Ty)×r.D)→Option (ZB l)
 |[],[]=>some ()
 |r::l,q::qs=>(QH (β:=Ty.D) q.1 r q.2).bind fun a=>(ZB.nw l qs).map fun b=>(a,b)
 |_,_=>none
def ZB.om(bx:List Bx):(l:List Ty)→List Nat→Option (ZB l)
 |[],[]=>some ()
 |r::l,b::bs=>(match bx[b]? with
  |some (.mem cs)=>Ho bx r cs
  |_=>none).bind fun a=>(ZB.om bx l bs).map fun c=>(a,c)
 |_,_=>none
def AP.get(bx:List Bx):(p:AP)→AV→Option p.V
 | .qt f rs,x=>match x with
  | .qt g rows=>if f=g then ZB.nw rs rows else none
  | .fn g bs=>if f=g then ZB.om bx rs bs else none
  |_=>none
 | .v t,x=>if t.scalar then Mb bx t x else none
 | .sl false r,x=>Mb bx (.sl r) x
 | .sl true r,x=>match x with
  | .sl true q y=>QH (β:=fun r=>List r.D) q r y
  | .nil=>some []
  |_=>none
 | .my r,x=>match x with
  | .PE _ q y 0=>QH (β:=Ty.D) q r y
  | .IC b 0=>match bx[b]? with
   |some (.mem cs)=>Ho bx r cs
   |_=>none
  | .JQ b p i sz 0=>match bx[b]? with
   |some (.sl _ q rows)=>(Gy q rows p).bind fun s=>if sz=s.1.n then QH (β:=Ty.D) s.1 r (rowAt s.1 s.2 i)else none
   |_=>none
  |_=>none
 | .nil,_=>some ()
 | .ref _,_=>some ()
 | .ptr _ _,_=>some ()
 | .fn _ _,_=>some ()
 | .any,_=>some ()
 | .kY _ _,x=>match x with
  | .ref _ [s]=>some (s.i,s.j)
  |_=>none
def Xi.get(bx:List Bx):(l:List AP)→List AV→Option (Xi.V l)
 |[],[]=>some ()
 |p::l,x::xs=>(p.get bx x).bind fun a=>(Xi.get bx l xs).map fun b=>(a,b)
 |_,_=>none
def Ya.get(bx:List Bx):(l:List (AP ⊕ List AP))→List (AV ⊕ List AV)→Option (Ya.V l)
 |[],[]=>some ()
 | .inl p::l,.inl x::xs=>(p.get bx x).bind fun a=>(Ya.get bx l xs).map fun b=>(a,b)
 | .inr p::l,.inr x::xs=>(Xi.get bx p x).bind fun a=>(Ya.get bx l xs).map fun b=>(a,b)
 |_,_=>none
def XP.get(bx:List Bx):(p:XP)→XV→Option p.V
 | .c p,.c x=>p.get bx x
 | .agg l,.agg xs=>Xi.get bx l xs
 | .row r,.agg xs=>Ho bx r xs
 | .MH l,.MH xs=>Ya.get bx l xs
 |_,_=>none
def Gt.get(bx:List Bx)(tm:List XV):(l:List (Nat×XP))→Option (Gt.V l)
 |[]=>some ()
 |(i,p)::l=>
  match tm[i]? with
  |some x=>(p.get bx x).bind fun a=>(Gt.get bx tm l).map fun b=>(a,b)
  |none=>none
def Jb.get(bx bk:List Bx):(m:PK)→(l:List BP)→Option (Jb.V l)
 |_,[]=>some ()
 |some b::m,.mem l::ps=>
  match bx[b]? with
  |some (.mem cs)=>(Xi.get bk l cs).bind fun a=>(Jb.get bx bk m ps).map fun c=>(a,c)
  |_=>none
 |some b::m,.sl d r::ps=>
  match bx[b]? with
  |some (.sl d' q rows)=>if 1≤d∧d≤d' then(QH (β:=fun r=>List r.D) q r rows).bind fun a=>(Jb.get bx bk m ps).map fun c=>(a,c)else none
  |_=>none
 |_::m,.gone::ps=>(Jb.get bx bk m ps).map fun c=>((),c)
 |_,_=>none
def Ba.fit(s:Ba)(N:Nat)(m0:PK)(tm:List XV)(bx:List Bx):Option (s.V×PK):=
 (Gt.NZ N tm m0 s.Dy).bind fun m=>(Jb.NZ N bx 0 m s.Gr).bind fun m=>
  let bk:=Ct bx m
  (Gt.get bk tm s.Dy).bind fun a=>(Jb.get bx bk m s.Gr).map fun c=>((a,c),m)
def BP.opened:BP→Bx
 | .sl d r=> .sl (d+1) r []
 |_=> .dead
def Ba.opens(s:Ba)(bx:List Bx):List Bx:=bx++s.Gr.map BP.opened
def Ba.m0(s:Ba):PK:=List.replicate s.Gr.length none
structure QU where
 ins:Ba
 outs:Ba
 g:ins.V→Option outs.V
def X6(m:PK)(n:Nat)(i:Nat):Nat:=
 match m[i]? with
 |some (some b)=>b
 |_=>n+(i-m.length)
def Zi(JD:Nat→Nat):Nat→(l:List BP)→Jb.V l→List Bx→List Bx
 |_,[],_,bx=>bx
 |i,p::l,x,bx=>Zi JD (i+1) l x.2 (if JD i<bx.length then bx.set (JD i) (p.mk JD x.1)else bx++[p.mk JD x.1])
def eI:(l:List (Nat×XP))→Gt.V l→(Nat→Nat)→XV
 |(_,p)::_,x,JD=>p.mk JD x.1
 |[],_,_=> .c .undef
def Dr:Nat:=2^36
section ops
variable{Y:Type}
abbrev K(Y:Type):=XV→St→Option Y
def St.new(σ:St)(b:Bx):St:={ σ with bx:=σ.bx++[b] }
def ADt(x:Bool)(a b:XV)(σ:St)(k:K Y):Option Y:=cond x (k a σ) (k b σ)
def fC(op:BinOp)(κ:IntKind)(a b:Int)(k:AV→Option Y):Option Y:=
 match op with
 | .add=>k (.v (.int κ) (κ.wrap (a+b)))
 | .sub=>k (.v (.int κ) (κ.wrap (a-b)))
 | .mul=>k (.v (.int κ) (κ.wrap (a*b)))
 | .quo=>if b=0 then none else k (.v (.int κ) (κ.wrap (a.tdiv b)))
 | .rem=>if b=0 then none else k (.v (.int κ) (a.tmod b))
 | .and=>k (.v (.int κ) (κ.wrap (BitVec.ofInt κ.bits a &&& BitVec.ofInt κ.bits b).toNat))
 | .or=>k (.v (.int κ) (κ.wrap (BitVec.ofInt κ.bits a ||| BitVec.ofInt κ.bits b).toNat))
 | .xor=>k (.v (.int κ) (κ.wrap (BitVec.ofInt κ.bits a ^^^ BitVec.ofInt κ.bits b).toNat))
 | .andNot=>k (.v (.int κ) (κ.wrap (BitVec.ofInt κ.bits a &&& ~~~BitVec.ofInt κ.bits b).toNat))
 | .eql=>k (.v .bool (a==b))
 | .neq=>k (.v .bool (a !=b))
 | .lss=>k (.v .bool (decide (a<b)))
 | .leq=>k (.v .bool (decide (a≤b)))
 | .gtr=>k (.v .bool (decide (a>b)))
 | .geq=>k (.v .bool (decide (a≥b)))
 |_=>none
def X4(op:BinOp)(κ:IntKind)(a b:Int)(k:AV→Option Y):Option Y:=
 if b<0 then none else
 match op with
 | .shl=>k (.v (.int κ) (κ.wrap (a*2^min b.toNat κ.bits)))
 | .shr=>k (.v (.int κ) (a.fdiv (2^min b.toNat κ.bits)))
 |_=>none
def jI(op:BinOp)(a b:ACC)(k:AV→Option Y):Option Y:=
 match op with
 | .add=>if a.length+b.length≤Dr then k (.v .str (a++b))else none
 | .eql=>k (.v .bool (a==b))
 | .neq=>k (.v .bool (!(a==b)))
 | .lss=>k (.v .bool (Op.bytesLess a b))
 | .leq=>k (.v .bool (Op.bytesLess a b||a==b))
 | .gtr=>k (.v .bool (!(Op.bytesLess a b||a==b)))
 | .geq=>k (.v .bool (!Op.bytesLess a b))
 |_=>none
def oV:TD→AV→AV→Option Bool
 | .int _,.v (.int j) a,.v (.int k) b=>if j=k then some (a==b)else none
 | .bool,.v .bool a,.v .bool b=>some (a==b)
 | .str,.v .str a,.v .str b=>some (a==b)
 |_,_,_=>none
def Kt(T:JY):Nat→List AC7→List AV→List AV→Option Bool
 |_,[],[],[]=>some true
 |i,(o,t)::fs,x::l,z::m=>
  if o=i then
   match T.get t with
   |some ti=>match oV ti.desc x z with
    |some p=>(Kt T (i+1) fs l m).map fun r=>p&&r
    |none=>none
   |none=>none
  else none
 |_,_,_,_=>none
def JY.fields(T:JY)(t:Nat):Option (List AC7):=
 match(T.get t).map TI.desc with
 |some (.st fs)=>some fs
 |_=>none
def wt(T:JY)(t:Nat)(op:BinOp)(a b:XV)(k:AV→Option Y):Option Y:=
 match a,b with
 | .c (.v (.int j) x),.c (.v (.int j') y)=>
  match op with
  | .shl| .shr=>X4 op j x y k
  |_=>if j=j' then fC op j x y k else none
 | .c (.v .str x),.c (.v .str y)=>jI op x y k
 | .c (.v .bool x),.c (.v .bool y)=>
  match T.get t with
  |some ti=>match ti.desc with
   | .bool=>match op with
    | .eql=>k (.v .bool (x==y))
    | .neq=>k (.v .bool (!(x==y)))
    |_=>none
   |_=>none
  |none=>none
 | .agg l,.agg m=>
  match op,(T.fields t).bind fun fs=>Kt T 0 fs l m with
  | .eql,some r=>k (.v .bool r)
  | .neq,some r=>k (.v .bool (!r))
  |_,_=>none
 |_,_=>none
def unX(op:UnOp)(a:XV)(k:AV→Option Y):Option Y:=
 match op,a with
 | .not,.c (.v .bool x)=>k (.v .bool (!x))
 | .neg,.c (.v (.int j) x)=>k (.v (.int j) (j.wrap (0-x)))
 |_,_=>none
def AAx(d b:Nat)(p:List WN)(s:WN):((t:Ty)×t.D)→AV
 |⟨.sl r,x⟩=>if d≤1 then .sl true r x else .ref b (p++[s])
 |⟨t,x⟩=>if t.scalar then .v t x else .undef
def yg(s:Bool):((t:Ty)×t.D)→AV
 |⟨.sl r,x⟩=> .sl s r x
 |⟨t,x⟩=>if t.scalar then .v t x else .undef
def dJ(f:Nat→Option AV):Nat→Nat→Option (List AV)
 |_,0=>some []
 |j,n+1=>(f j).bind fun x=>(dJ f (j+1) n).map fun l=>x::l
def I2(bx:List Bx):AV→Nat→Option AV
 | .IC b j,i=>
  match bx[b]? with
  |some (.mem cs)=>cs[j+i]?
  |_=>none
 | .JQ b p r sz j,i=>
  match bx[b]? with
  |some (.sl d q rows)=>if p.length<d then(Gy q rows p).bind fun s=>if sz=s.1.n then(BR s.1 (j+i) (rowAt s.1 s.2 r)).map (AAx (d-p.length) b p ⟨r,sz,j+i⟩)else none else none
  |_=>none
 | .PE s r x j,i=>(BR r (j+i) x).map (yg s)
 |_,_=>none
def mB(T:JY)(t:Nat)(σ:St)(a:XV):Option XV:=
 match a,T.get t with
 | .c a,some ti=>if ti.size=0 then none else if ti.desc.agg then(dJ (I2 σ.bx a) 0 ti.size).map .agg else(I2 σ.bx a 0).map .c
 |_,_=>none
def dX(d:Nat)(t:Ty)(x:AV)(bx:List Bx):Option (t.D×List Bx×Nat):=
 match x with
 | .v u y=>(QH (β:=Ty.D) u t y).map fun y=>(y,bx,d)
 | .nil=>match t with
  | .sl _=>some ([],bx,d)
  |_=>none
 | .sl true r y=>match t with
  | .sl q=>(QH (β:=fun r=>List r.D) r q y).map fun y=>(y,bx,1)
  |_=>none
 | .ref b []=>match t with
  | .sl q=>
   match bx[b]? with
   |some (.sl d' r y)=>(QH (β:=fun r=>List r.D) r q y).map fun y=>(y,bx.set b .dead,min d (d'+1))
   |_=>none
  |_=>none
 | .win b [] off n=>match t with
  | .sl q=>
   match bx[b]? with
   |some (.sl d' r y)=>(QH (β:=fun r=>List r.D) r q ((y.drop off).take n)).map fun y=>(y,bx.set b .dead,min d (d'+1))
   |_=>none
  |_=>none
 |_=>none
def cellsIn(d:Nat):(r:Ty)→List AV→List Bx→Option (r.D×List Bx×Nat)
 | .unit,[],bx=>some ((),bx,d)
 | .cons c r,x::l,bx=>(dX d c x bx).bind fun a=>(cellsIn a.2.2 r l a.2.1).map fun b=>((a.1,b.1),b.2)
 |_,_,_=>none
def AEk(d:Nat)(r:Ty)(x:XV)(bx:List Bx):Option (r.D×List Bx×Nat):=
 match x with
 | .agg l=>cellsIn d r l bx
 | .c x=>dX d r x bx
 |_=>none
def JX(b:Nat):AV→AV
 | .ref b' (s::p)=>if b' =b then .undef else .ref b' (s::p)
 | .win b' (s::p) i n=>if b' =b then .undef else .win b' (s::p) i n
 | .JQ b' (s::p) i sz j=>if b' =b then .undef else .JQ b' (s::p) i sz j
 |x=>x
def uc(b:Nat):XV→XV
 | .c x=> .c (JX b x)
 | .agg l=> .agg (l.map (JX b))
 | .MH l=> .MH (l.map fun| .inl x=> .inl (JX b x)| .inr q=> .inr (q.map (JX b)))
def AAc(b:Nat):Bx→Bx
 | .mem cs=> .mem (cs.map (JX b))
 |x=>x
def St.AA2(b:Nat)(σ:St):St:={ tm:=σ.tm.map (uc b),bx:=σ.bx.map (AAc b) }
def Wx(cs:List AV):Nat→List AV→Option (List AV)
 |_,[]=>some cs
 |j,x::l=>if j<cs.length then Wx (cs.set j x) (j+1) l else none
def pk(d:Nat)(r:Ty)(old:r.D)(j:Nat)(x:XV)(bx:List Bx):Option (r.D×List Bx×Nat):=
 match x with
 | .agg l=>if j=0 then cellsIn d r l bx else none
 | .c x=>
  match BR r j old with
  |some ⟨t,_⟩=>(dX d t x bx).bind fun a=>(D6 r j old t a.1).map fun row=>(row,a.2)
  |none=>none
 |_=>none
def XV.plain:XV→Bool
 | .c (.v _ _)=>true
 |_=>false
def gw(σ:St)(a:XV)(x:XV):Option St:=
 match a with
 | .c (.IC b j)=>
  match σ.bx[b]? with
  |some (.mem cs)=>(Wx cs j x.cells).map fun cs=>{ σ with bx:=σ.bx.set b (.mem cs) }
  |_=>none
 | .c (.JQ b p i sz j)=>
  match σ.bx[b]? with
  |some (.sl d r rows)=>if p.length<d then
   (Gy r rows p).bind fun s=>if sz=s.1.n then(pk (d-p.length) s.1 (rowAt s.1 s.2 i) j x (σ.bx.set b .dead)).bind fun w=>
    (o5 r rows p s.1 (s.2.set i w.1)).map fun rows=>
     let σ':St:={ σ with bx:=w.2.1.set b (.sl (w.2.2+p.length) r rows) }
     if x.plain then σ' else σ'.AA2 b
    else none
   else none
  |_=>none
 |_=>none
def Zr(σ:St)(a x:XV):Option (St×XV):=
 match a,x with
 | .c (.JQ b _ _ _ _),.c (.win b' (s::p') off n)=>
  if b' =b then
   match σ.bx[b]? with
   |some (.sl d r rows)=>(Gy r rows (s::p')).map fun q=>({ σ with bx:=σ.bx.set b (.sl (min d (p'.length+1)) r rows) },.c (.sl true q.1 ((q.2.drop off).take n)))
   |_=>none
  else none
 |_,_=>some (σ,x)
def LG(σ:St)(a x:XV):Option St:=(Zr σ a x).bind fun q=>gw q.1 a q.2
def nX(bx:List Bx)(x:AV):Option ((r:Ty)×(List r.D×List Bx×Nat)):=
 match x with
 | .v .str s=>some ⟨.int .u8,s.map (fun c=>(c.toNat:Int)),bx,9⟩
 | .sl s r rows=>if r.flat then some ⟨r,rows,bx,9⟩else if s then some ⟨r,rows,bx,1⟩else none
 | .ref b []=>
  match bx[b]? with
  |some (.sl d r rows)=>if r.flat then some ⟨r,rows,bx,9⟩else some ⟨r,rows,bx.set b .dead,d⟩
  |_=>none
 | .ref b p=>
  match bx[b]? with
  |some (.sl _ r rows)=>(Gy r rows p).bind fun q=>if q.1.flat then some ⟨q.1,q.2,bx,9⟩else none
  |_=>none
 | .win b p off n=>
  match bx[b]? with
  |some (.sl _ r rows)=>(Gy r rows p).bind fun q=>if q.1.flat then some ⟨q.1,(q.2.drop off).take n,bx,9⟩else none
  |_=>none
 |_=>none
def nT(bx:List Bx)(x:AV):Option ((r:Ty)×(List r.D×List Bx×Nat)):=
 match x with
 | .ref b []=>
  match bx[b]? with
  |some (.sl d r rows)=>some ⟨r,rows,bx.set b .dead,d⟩
  |_=>none
 | .win b [] off n=>
  match bx[b]? with
  |some (.sl d r rows)=>some ⟨r,(rows.drop off).take n,bx.set b .dead,d⟩
  |_=>none
 |_=>none
def JY.elem(T:JY)(t:Nat):Option TI:=
 match(T.get t).map TI.desc with
 |some (.sl e)=>T.get e
 |_=>none
def JY.M6(T:JY)(t:Nat)(r:Ty):Bool:=
 match T.elem t with
 |some ti=>decide (ti.size=r.n)&&decide (ti.bytes≤512)&&decide (ti.row=some r)
 |none=>false
def JY.isStr(T:JY)(t:Nat):Bool:=
 match(T.get t).map TI.desc with
 |some .str=>true
 |_=>false
def JY.AI2(T:JY)(t:Nat):Bool:=
 match(T.get t).map TI.desc with
 |some (.sl _)=>true
 |_=>false
def dx(T:JY)(ts:Array TypeId)(σ:St)(a x:XV)(k:K Y):Option Y:=
 match ts[0]?,ts[1]? with
 |some t,some u=>
  if T.AI2 u||T.isStr u then
   match a,x with
   | .c .nil,.c y=>
    (nX σ.bx y).bind fun s=>if T.M6 t s.1 then
     if s.2.1.length≤Dr then k (.c (.ref s.2.2.1.length [])) { σ with bx:=s.2.2.1++[.sl s.2.2.2 s.1 s.2.1] }else none
     else none
   | .c a,.c y=>
    (nT σ.bx a).bind fun d=>if T.M6 t d.1 then(nX d.2.2.1 y).bind fun s=>
     (QH (β:=fun r=>List r.D) s.1 d.1 s.2.1).bind fun rows=>
      if d.2.1.length+rows.length≤Dr then
       k (.c (.ref s.2.2.1.length [])) { σ with bx:=s.2.2.1++[.sl (min d.2.2.2 s.2.2.2) d.1 (d.2.1++rows)] }
      else none
     else none
   |_,_=>none
  else none
 |_,_=>none
def j0(T:JY)(ts:Array TypeId)(σ:St)(x:XV)(k:K Y):Option Y:=
 match ts[0]?,x with
 |some t,.c (.win b [] off n)=>
  match σ.bx[b]? with
  |some (.sl d r rows)=>if T.M6 t r&&(r.flat&&decide (0<r.n))then k (.c .undef) { σ with bx:=σ.bx.set b (.sl d r ((rows.take off++List.replicate n r.z)++rows.drop (off+n))) }else none
  |_=>none
 |_,_=>none
def cx:XV→Option Int
 | .c (.v (.int _) n)=>some n
 |_=>none
def OJ(len:Nat)(lo hi:Option XV)(k:Nat→Nat→Option Y):Option Y:=
 let h:Option Int:=match hi with
  |none=>some (len:Int)
  |some x=>cx x
 let l:Option Int:=match lo with
  |none=>some 0
  |some x=>cx x
 match l,h with
 |some l,some h=>if 0≤l∧l≤h∧h≤(len:Int)then k l.toNat h.toNat else none
 |_,_=>none
def jj(T:JY)(t:Nat)(σ:St)(x:XV)(lo hi:Option XV)(k:K Y):Option Y:=
 match x with
 | .c (.v .str s)=>if T.isStr t then OJ s.length lo hi fun l h=>k (.c (.v .str ((s.drop l).take (h-l)))) σ else none
 | .c (.sl s r rows)=>if T.M6 t r then OJ rows.length lo hi fun l h=>k (.c (.sl s r ((rows.drop l).take (h-l)))) σ else none
 | .c (.ref b p)=>
  match M_ σ.bx (.ref b p)with
  |some q=>if T.M6 t q.1 then OJ q.2.length lo hi fun l h=>k (.c (.win b p l (h-l))) σ else none
  |none=>none
 |_=>none
def kE(σ:St)(T:JY)(t:Nat)(x i:XV)(k:K Y):Option Y:=
 match x,cx i with
 | .c (.sl s r rows),some i=>if T.M6 t r then(if 0≤i∧i<(rows.length:Int)then k (.c (.PE s r (rowAt r rows i.toNat) 0)) σ else none)else none
 | .c (.ref b p),some i=>
  match M_ σ.bx (.ref b p)with
  |some q=>if T.M6 t q.1 then(if 0≤i∧i<(q.2.length:Int)then k (.c (.JQ b p i.toNat q.1.n 0)) σ else none)else none
  |none=>none
 | .c (.win b p off n),some i=>
  match M_ σ.bx (.ref b p)with
  |some q=>if T.M6 t q.1 then(if 0≤i∧i<(n:Int)then k (.c (.JQ b p (off+i.toNat) q.1.n 0)) σ else none)else none
  |none=>none
 |_,_=>none
def u_(T:JY)(t:Nat)(x:XV)(f:Nat):Option XV:=
 match T.get t with
 |some ⟨_,_,.st fs,_⟩=>
  match fs[f]? with
  |some (o,_)=>match x with
   | .c (.IC b j)=>some (.c (.IC b (j+o)))
   | .c (.JQ b p i sz j)=>some (.c (.JQ b p i sz (j+o)))
   | .c (.PE s r y j)=>some (.c (.PE s r y (j+o)))
   |_=>none
  |none=>none
 |_=>none
def AE2(T:JY)(t:Nat)(x:XV)(f:Nat):Option XV:=
 match T.get t,x with
 |some ⟨_,_,.st fs,_⟩,.agg l=>
  match fs[f]? with
  |some (o,u)=>
   match T.get u with
   |some ti=>if ti.desc.agg then some (.agg ((l.drop o).take ti.size))else(l[o]?).map .c
   |none=>none
  |none=>none
 |_,_=>none
def sE(T:JY)(src dst:Nat)(σ:St)(x:XV)(k:K Y):Option Y:=
 match(T.get src).map TI.desc,(T.get dst).map TI.desc,x with
 |some (.int _),some (.int κ),.c (.v (.int _) n)=>k (.c (.v (.int κ) (κ.wrap n))) σ
 |some .str,some .str,.c (.v .str s)=>k (.c (.v .str s)) σ
 |some .str,some (.sl e),.c (.v .str s)=>
  match(T.get e).map TI.desc with
  |some (.int .u8)=>if s.length≤Dr then k (.c (.ref σ.bx.length [])) (σ.new (.sl 9 (.int .u8) (s.map fun c=>(c.toNat:Int))))else none
  |_=>none
 |some (.sl e),some .str,.c x=>
  match(T.get e).map TI.desc,Mb σ.bx (.sl (.int .u8)) x with
  |some (.int .u8),some l=>k (.c (.v .str (l.map fun n:Int=>UInt8.ofNat n.toNat))) σ
  |_,_=>none
 |_,_,_=>none
def tC(T:JY)(t:Nat)(σ:St)(l c:XV)(k:K Y):Option Y:=
 match(T.get t).map TI.desc,cx l,cx c with
 |some (.sl e),some n,some m=>
  match JY.jT T e with
  |some r=>if T.M6 t r then(if 0≤n∧n≤m∧m≤(Dr:Int)then k (.c (.ref σ.bx.length [])) (σ.new (.sl 9 r (List.replicate n.toNat r.z)))else none)else none
  |none=>none
 |_,_,_=>none
def fk(T:JY)(fs:List AC7):List AV→List (Nat×XV)→Option (List AV)
 |cs,[]=>some cs
 |cs,(i,x)::l=>
  match fs[i]? with
  |some (o,u)=>
   match T.get u with
   |some ti=>if x.cells.length=ti.size∧ti.size≠0∧x.cells.all AV.known=true then(Wx cs o x.cells).bind fun cs=>fk T fs cs l else none
   |none=>none
  |none=>none
def Ye(r:Ty):Nat→Nat→List (Nat×XV)→List Bx→Nat→Option (List r.D×List Bx×Nat)
 |_,0,[],bx,d=>some ([],bx,d)
 |i,n+1,(j,x)::l,bx,d=>
  if i=j then(AEk d r x bx).bind fun a=>(Ye r (i+1) n l a.2.1 a.2.2).map fun b=>(a.1::b.1,b.2)else none
 |i,n+1,[],bx,d=>(Ye r (i+1) n [] bx d).map fun b=>(r.z::b.1,b.2)
 |_,0,_::_,_,_=>none
def Qu(T:JY)(t n:Nat)(parts:List (Nat×XV))(σ:St)(k:K Y):Option Y:=
 match(T.get t).map TI.desc with
 |some (.sl e)=>
  match JY.jT T e with
  |some r=>if T.M6 t r&&decide (n≤1024)&&decide (r.n≤1024)then(Ye r 0 n parts σ.bx 9).bind fun a=>k (.c (.ref a.2.1.length [])) { σ with bx:=a.2.1++[.sl a.2.2 r a.1] }else none
  |none=>none
 |_=>none
def WJ(T:JY)(t:Nat)(σ:St)(x i:XV)(k:K Y):Option Y:=
 match x,cx i with
 | .c (.v .str s),some i=>if T.isStr t then if 0≤i∧i<(s.length:Int)then k (.c (.v (.int .u8) ((s.getD i.toNat 0).toNat:Int))) σ else none else none
 |_,_=>none
def py(x:XV)(i:Nat):Option XV:=
 match x with
 | .MH l=>match l[i]? with
  |some (.inl a)=>some (.c a)
  |some (.inr q)=>some (.agg q)
  |none=>none
 |_=>none
def Gj(m:PK):AV→AV
 | .ref b (s::p)=>if m.contains (some b)then .undef else .ref b (s::p)
 | .win b (s::p) i n=>if m.contains (some b)then .undef else .win b (s::p) i n
 | .JQ b (s::p) i sz j=>if m.contains (some b)then .undef else .JQ b (s::p) i sz j
 |x=>x
def Uo(m:PK):XV→XV
 | .c x=> .c (Gj m x)
 | .agg l=> .agg (l.map (Gj m))
 | .MH l=> .MH (l.map fun| .inl x=> .inl (Gj m x)| .inr q=> .inr (q.map (Gj m)))
def AEQ(m:PK):Bx→Bx
 | .mem cs=> .mem (cs.map (Gj m))
 |x=>x
def St.ZK(m:PK)(σ:St):St:=
 match m with
 |[]=>σ
 |_::_=>{ tm:=σ.tm.map (Uo m),bx:=σ.bx.map (AEQ m) }
def l8(c:QU)(args:List XV)(σ:St)(k:K Y):Option Y:=
 if args.length=c.ins.Dy.length then
  match c.ins.fit σ.bx.length c.ins.m0 args (c.ins.opens σ.bx)with
  |some (v,m)=>(c.g v).bind fun u=>
   let JD:=X6 m (c.ins.opens σ.bx).length
   let σ1:=({ σ with bx:=c.ins.opens σ.bx }:St).ZK m
   k (eI c.outs.Dy u.1 JD) { σ1 with bx:=Zi JD 0 c.outs.Gr u.2 (Ct σ1.bx m) }
  |none=>none
 else none
def ai(σ:St)(x:XV)(k:K Y):Option Y:=
 match x with
 | .c (.win b [] off n)=>
  (nT σ.bx (.win b [] off n)).bind fun s=>k (.c (.ref s.2.2.1.length [])) { σ with bx:=s.2.2.1++[.sl s.2.2.2 s.1 s.2.1] }
 |x=>k x σ
def xU(l:List XV):Option AA4:=
 match l with
 |[]=>some []
 | .c (.IC b 0)::l=>(xU l).map fun r=>b::r
 |_=>none
def tQ(big:Bool)(a b:XV)(k:AV→Option Y):Option Y:=
 match a,b with
 | .c (.v (.int j) x),.c (.v (.int j') y)=>
  if j=j' then(if big then k (.v (.int j) (if y>x then y else x))else k (.v (.int j) (if y<x then y else x)))else none
 |_,_=>none
def WZ(T:JY)(Γ:Nat→Option QU)(o:Oper)(σ:St)(k:K Y):Option Y:=
 match o.op with
 | .move x=>k (σ.ev x) σ
 | .assign x=>ai σ (σ.ev x) k
 | .pick c a b=>match σ.ev c with
  | .c (.v .bool x)=>ADt x (σ.ev a) (σ.ev b) σ k
  |_=>none
 | .alloc t=>match JY.jT T t with
  |some r=>k (.c (.IC σ.bx.length 0)) (σ.new (.mem (ay r)))
  |none=>none
 | .box t x=>match T.get t with
  |some ti=>if(σ.ev x).cells.length=ti.size∧ti.size≠0∧(σ.ev x).cells.all AV.known=true then k (.c (.IC σ.bx.length 0)) (σ.new (.mem (σ.ev x).cells))else none
  |none=>none
 | .build t parts=>match T.get t,JY.jT T t with
  |some ⟨_,_,.st fs,_⟩,some r=>match fk T fs (ay r) (parts.toList.map fun q=>(q.1,σ.ev q.2))with
   |some cs=>k (.agg cs) σ
   |none=>none
  |_,_=>none
 | .buildSlice t n parts=>Qu T t n (parts.toList.map fun q=>(q.1,σ.ev q.2)) σ k
 | .load t a=>match mB T t σ (σ.ev a)with
  |some x=>k x σ
  |none=>none
 | .store t a x=>match T.get t with
  |some ti=>if(σ.ev x).cells.length=ti.size∧ti.size≠0∧(σ.ev x).cells.all AV.known=true then(match LG σ (σ.ev a) (σ.ev x)with
   |some σ=>k (.c .undef) σ
   |none=>none)else none
  |none=>none
 | .nilCheck x=>match σ.ev x with
  | .c (.IC b j)=>k (.c (.IC b j)) σ
  | .c (.JQ b p i sz j)=>k (.c (.JQ b p i sz j)) σ
  | .c (.PE s r y j)=>k (.c (.PE s r y j)) σ
  | .c (.fn f J8)=>k (.c (.fn f J8)) σ
  |_=>none
 | .binOp op t x y _=>wt T t op (σ.ev x) (σ.ev y) fun a=>k (.c a) σ
 | .unOp op _ x=>unX op (σ.ev x) fun a=>k (.c a) σ
 | .convert s d x=>sE T s d σ (σ.ev x) k
 | .makeFunc (.func f) first J8=>if first.size=0 then(match xU (J8.toList.map σ.ev)with
  |some bs=>k (.c (.fn f bs)) σ
  |none=>none)else none
 | .makeSlice t l c=>tC T t σ (σ.ev l) (σ.ev c) k
 | .slice t x lo hi none=>jj T t σ (σ.ev x) (lo.map σ.ev) (hi.map σ.ev) k
 | .fieldAddr t x f=>match u_ T t (σ.ev x) f with
  |some y=>k y σ
  |none=>none
 | .field t x f=>match AE2 T t (σ.ev x) f with
  |some y=>k y σ
  |none=>none
 | .indexAddr t x i=>kE σ T t (σ.ev x) (σ.ev i) k
 | .index t x i=>WJ T t σ (σ.ev x) (σ.ev i) k
 | .extract x i=>match py (σ.ev x) i with
  |some y=>k y σ
  |none=>none
 | .call { callee:= .value f,args,.. }=>match σ.ev f with
  | .c (.fn f J8)=>match Γ f with
   |some c=>l8 c (args.toList.map σ.ev++J8.map fun b=> .c (.IC b 0)) σ k
   |none=>none
  | .c (.qt f rows)=>match Γ f with
   |some c=>l8 c (args.toList.map σ.ev++rows.map fun q=> .c (.PE false q.1 q.2 0)) σ k
   |none=>none
  |_=>none
 | .call { callee:= .builtin .len,args,argTypes }=>match args.toList.map σ.ev,argTypes[0]? with
  |[.c (.v .str s)],some t=>if T.isStr t then k (.c (.v (.int .i64) (s.length:Int))) σ else none
  |[.c x],some t=>if T.AI2 t then(match lenOf σ.bx x with
   |some n=>k (.c (.v (.int .i64) (n:Int))) σ
   |none=>none)else none
  |_,_=>none
 | .call { callee:= .builtin .append,args,argTypes }=>match args.toList.map σ.ev with
  |[a,x]=>dx T argTypes σ a x k
  |_=>none
 | .call { callee:= .builtin .clear,args,argTypes }=>match args.toList.map σ.ev with
  |[x]=>j0 T argTypes σ x k
  |_=>none
 | .call { callee:= .builtin .max,args,.. }=>match args.toList.map σ.ev with
  |[a,x]=>tQ true a x fun a=>k (.c a) σ
  |_=>none
 | .call { callee:= .builtin .min,args,.. }=>match args.toList.map σ.ev with
  |[a,x]=>tQ false a x fun a=>k (.c a) σ
  |_=>none
 |_=>none
end ops
end Go.Fw
end
section
namespace Go.Fw
section
variable{Y:Type}
structure aN where
 T:JY
 Γ:Nat→Option QU
 hint:Nat→List Nat
def gB(hint:AA4):XV→Bool
 | .c (.IC b _)=>hint.contains b
 | .c (.JQ b _ _ _ _)=>hint.contains b
 | .c (.PE _ _ _ _)=>true
 |_=>false
def jB(hint:AA4)(σ:St):Op→Bool
 | .assign x=>match σ.ev x with
  | .c (.win _ [] _ _)=>false
  |_=>true
 | .move _| .pick .. | .nilCheck _| .binOp .. | .unOp .. | .fieldAddr .. | .field .. | .indexAddr .. | .index .. | .extract .. | .build .. =>true
 | .slice _ _ _ _ none=>true
 | .load _ a=>gB hint (σ.ev a)
 | .call { callee:= .builtin .len,.. }=>true
 | .call { callee:= .builtin .max,.. }=>true
 | .call { callee:= .builtin .min,.. }=>true
 |_=>false
def KM(Γ:Nat→Option QU)(σ:St):Op→List Nat
 | .store _ a _=>match σ.ev a with
  | .c (.IC b _)=>[b]
  | .c (.JQ b _ _ _ _)=>[b]
  |_=>[]
 | .call { callee:= .value f,args,.. }=>match σ.ev f with
  | .c (.fn f J8)=>match Γ f with
   |some c=>match c.ins.fit σ.bx.length c.ins.m0 (args.toList.map σ.ev++J8.map fun b=> .c (.IC b 0)) (c.ins.opens σ.bx)with
    |some (_,m)=>m.filterMap id
    |none=>[]
   |none=>[]
  | .c (.qt f rows)=>match Γ f with
   |some c=>match c.ins.fit σ.bx.length c.ins.m0 (args.toList.map σ.ev++rows.map fun q=> .c (.PE false q.1 q.2 0)) (c.ins.opens σ.bx)with
    |some (_,m)=>m.filterMap id
    |none=>[]
   |none=>[]
  |_=>[]
 | .call { callee:= .builtin .clear,args,.. }=>match args.toList.map σ.ev with
  |[.c (.win b _ _ _)]=>[b]
  |_=>[]
 |_=>[]
def tt:XV:= .c (.v .bool true)
def ff:XV:= .c (.v .bool false)
def AAp(C:aN)(ops:Array Oper)(o:Oper)(kn:St→Option Y)(σ:St):Option Y:=
 match o.guard with
 |none=>WZ C.T C.Γ o σ fun x σ' =>kn (σ'.put o.dst x)
 |some (j,want)=>
  match(ops[j]?).bind (·.dst)with
  |some t=>
   match σ.tm[t]? with
   |some (.c (.v .bool b))=>
    let yes (σ:St):Option Y:=WZ C.T C.Γ o σ fun x σ' =>kn (σ'.put o.dst x)
    let no (σ:St):Option Y:=kn (σ.put o.dst (.MH []))
    cond b ((if want then yes else no) (σ.put (some t) tt)) ((if want then no else yes) (σ.put (some t) ff))
   |some (.MH [])=>kn (σ.put o.dst (.MH []))
   |_=>none
  |none=>none
def uQ(C:aN)(all:Array Oper):List Oper→(St→Option Y)→St→Option Y
 |[],kn,σ=>kn σ
 |o::rest,kn,σ=>AAp C all o (fun σ' =>uQ C all rest kn σ') σ
def z8(C:aN)(ops:Array Oper)(i:Nat)(kn:St→Option Y)(σ:St):Option Y:=
 match ops[i]? with
 |none=>none
 |some o=>AAp C ops o kn σ
def ko(bx:List Bx)(b:Nat):Bool:=
 match bx[b]? with
 |some .dead=>true
 |some _=>false
 |none=>true
def idle(ops:Array Oper)(σ:St)(o:Oper):Bool:=
 match o.guard with
 |none=>false
 |some (j,want)=>
  match(ops[j]?).bind (·.dst)with
  |some t=>
   match σ.tm[t]? with
   |some (.c (.v .bool b))=>b !=want
   |some (.MH [])=>true
   |_=>false
  |none=>false
def oW(hint:AA4)(ops:Array Oper)(listed:Array Bool)(σ:St)(i:Nat):Bool:=
 match ops[i]? with
 |some o=>(jB hint σ o.op||idle ops σ o)&&Region.free .any ops listed i
 |none=>false
def vR(f:Nat→List Bool→Option Y):List Nat→List Bool→Option Y
 |[],_=>none
 |[i],ω=>f i ω
 |i::_::_,[]=>f i []
 |i::_::_,true::ω=>f i ω
 |_::j::r,false::ω=>vR f (j::r) ω
def To(C:aN)(hint:AA4)(ops:Array Oper)(kn:List Bool→St→Option Y):Nat→Array Bool→List Bool→St→Option Y
 |fuel,listed,ω,σ=>
  if hint.all (fun b=> !ko σ.bx b)then
   match Region.ready .any ops listed with
   |[]=>kn ω σ
   |rs=>
    match fuel with
    |0=>none
    |fuel+1=>
     match rs.find? (oW hint ops listed σ)with
     |some i=>z8 C ops i (fun σ' =>To C hint ops kn fuel (listed.setIfInBounds i true) ω σ') σ
     |none=>vR (fun i ω=>
      match ops[i]? with
      |some o=>if(KM C.Γ σ o.op).all (fun b=> !hint.contains b)then z8 C ops i (fun σ' =>To C hint ops kn fuel (listed.setIfInBounds i true) ω σ') σ else none
      |none=>none) rs ω
  else none
def first:Code→Nat
 | .region id _ _=>id
 | .seq a _=>first a
 | .cond _ a _=>first a
 | .block _ a=>first a
 | .loop a=>first a
 | .scope a=>first a
 |_=>0
abbrev KN(Y:Type):=List Bool→St→Option Y
def run(C:aN)(J:Nat→St→Option Y):Code→KN Y→(Nat→KN Y)→KN Y→KN Y
 | .skip,kn,_,_,ω,σ=>kn ω σ
 | .region id ops draw,kn,_,_,ω,σ=>
  if draw then(if Region.noSelect ops then To C (C.hint id) ops kn ops.size (Array.replicate ops.size false) ω σ else none)else uQ C ops ops.toList (kn ω) σ
 | .seq a b,kn,kx,kr,ω,σ=>run C J a (fun ω σ=>run C J b kn kx kr ω σ) kx kr ω σ
 | .cond (.tmp t) a b,kn,kx,kr,ω,σ=>
  match σ.tm[t]? with
  |some (.c (.v .bool x))=>cond x (run C J a kn kx kr ω (σ.put (some t) tt)) (run C J b kn kx kr ω (σ.put (some t) ff))
  |_=>none
 | .block id body,kn,kx,kr,ω,σ=>run C J body kn (fun j ω σ=>if j=id then kn ω σ else kx j ω σ) kr ω σ
 | .loop body,_,_,_,_,σ=>J (first body) σ
 | .exit id,_,kx,_,ω,σ=>kx id ω σ
 | .ret,_,_,kr,ω,σ=>kr ω σ
 |_,_,_,_,_,_=>none
def find(C:aN)(J:Nat→St→Option Y)(ℓ :Nat):Code→KN Y→(Nat→KN Y)→KN Y→Option (KN Y)
 | .seq a b,kn,kx,kr=>
  match find C J ℓ a (fun ω σ=>run C J b kn kx kr ω σ) kx kr with
  |some f=>some f
  |none=>find C J ℓ b kn kx kr
 | .cond _ a b,kn,kx,kr=>
  match find C J ℓ a kn kx kr with
  |some f=>some f
  |none=>find C J ℓ b kn kx kr
 | .block id body,kn,kx,kr=>find C J ℓ body kn (fun j ω σ=>if j=id then kn ω σ else kx j ω σ) kr
 | .loop body,_,kx,kr=>
  if first body= ℓ then some (fun ω σ=>run C J body (fun _ σ=>J ℓ σ) kx kr ω σ)else find C J ℓ body (fun _ σ=>J (first body) σ) kx kr
 |_,_,_,_=>none
def AFc(T:JY)(σ:St):ResultVar→Option XV
 | .tmp t=>σ.tm[t]?
 | .cell a t=>match σ.tm[a]? with
  |some x=>mB T t σ x
  |none=>none
def wH:List XV→Option (List (AV ⊕ List AV))
 |[]=>some []
 | .c x::l=>(wH l).map fun r=> .inl x::r
 | .agg q::l=>(wH l).map fun r=> .inr q::r
 |_=>none
def jb(T:JY)(σ:St)(rs:List ResultVar):Option XV:=
 match rs.mapM (AFc T σ)with
 |some [x]=>some x
 |some l=>(wH l).map .MH
 |none=>none
def TW:Nat→Nat→List BP→PK
 |_,_,[]=>[]
 |i,n,p::l=>(match p with| .gone=>none|_=>if i<n then some i else none)::TW (i+1) n l
def AV.pY(b:Nat)(r:Ty)(rows:List r.D):AV→AV
 | .ref k []=>if k=b then .sl true r rows else .ref k []
 |x=>x
def XV.pY(b:Nat)(r:Ty)(rows:List r.D):XV→XV
 | .c x=> .c (x.pY b r rows)
 |x=>x
def Bx.pY(b:Nat)(r:Ty)(rows:List r.D):Bx→Bx
 | .mem cs=> .mem (cs.map (AV.pY b r rows))
 |x=>x
def St.pY(b:Nat)(σ:St):St:=
 match σ.bx[b]? with
 |some (.sl _ r rows)=>{ tm:=σ.tm.map (XV.pY b r rows),bx:=(σ.bx.set b .dead).map (Bx.pY b r rows) }
 |_=>σ
def G1:List AP→List AV→St→St
 | .sl true _::l,.ref b []::xs,σ=>G1 l xs (σ.pY b)
 |_::l,_::xs,σ=>G1 l xs σ
 |_,_,σ=>σ
def aq:List (AP ⊕ List AP)→List (AV ⊕ List AV)→St→St
 | .inl p::l,.inl x::xs,σ=>aq l xs (G1 [p] [x] σ)
 | .inr p::l,.inr x::xs,σ=>aq l xs (G1 p x σ)
 |_::l,_::xs,σ=>aq l xs σ
 |_,_,σ=>σ
def AVc:XP→XV→St→St
 | .c p,.c x,σ=>G1 [p] [x] σ
 | .agg l,.agg xs,σ=>G1 l xs σ
 | .MH l,.MH xs,σ=>aq l xs σ
 |_,_,σ=>σ
def kq(l:List (Nat×XP))(x:XV)(σ:St):St:=
 match l with
 |(_,p)::_=>AVc p x σ
 |[]=>σ
def q9(T:JY)(c:QU)(rs:List ResultVar)(σ:St):Option c.outs.V:=
 (jb T σ rs).bind fun x=>
  let σ:=kq c.outs.Dy x σ
  (jb T σ rs).bind fun x=>(c.outs.fit σ.bx.length (TW 0 c.ins.Gr.length c.outs.Gr) [x] (c.outs.opens σ.bx)).map fun q=>q.1
def DR(C:aN)(c:QU)(fn:Func)(J:Nat→St→Option c.outs.V)(ω:List Bool)(v:c.ins.V):Option c.outs.V:=
 match fn.body with
 |some code=>run C J code (fun _=>q9 C.T c fn.results.toList) (fun _ _ _=>none) (fun _=>q9 C.T c fn.results.toList) ω (c.ins.st fn.ntmps v)
 |none=>none
def JR(C:aN)(c:QU)(fn:Func)(J:Nat→St→Option c.outs.V)(ℓ :Nat)(ω:List Bool)(σ:St):Option c.outs.V:=
 match fn.body with
 |some code=>
  match find C J ℓ code (fun _=>q9 C.T c fn.results.toList) (fun _ _ _=>none) (fun _=>q9 C.T c fn.results.toList)with
  |some f=>f ω σ
  |none=>none
 |none=>none
def PT(bs:List BP):List (Nat×XP)→St→St
 |[],σ=>σ
 |(i,.c (.sl true r))::l,σ=>
  match σ.tm[i]? with
  |some (.c x)=>PT bs l (G1 [.sl true r] [x] σ)
  |_=>PT bs l σ
 |(i,.c (.ptr k _))::l,σ=>
  match bs[k]?,σ.tm[i]? with
  |some (.mem ps),some (.c (.IC b _))=>
   match σ.bx[b]? with
   |some (.mem cs)=>PT bs l (G1 ps cs σ)
   |_=>PT bs l σ
  |_,_=>PT bs l σ
 |_::l,σ=>PT bs l σ
def AV.su:AV→Bool
 | .ref _ _| .win _ _ _ _| .sl _ _ _| .nil=>true
 |_=>false
def St.forget(b j:Nat)(σ:St):St:=
 match σ.bx[b]? with
 |some (.mem cs)=>
  match cs[j]? with
  |some x=>if x.su then{ σ with bx:=σ.bx.set b (.mem (cs.set j (.ref σ.bx.length [])))++[.dead] }else σ
  |none=>σ
 |_=>σ
def Wy(bs:List BP)(b:Nat):Nat→List AP→St→St
 |_,[],σ=>σ
 |j,p::l,σ=>Wy bs b (j+1) l (match p with
  | .ref q=>match bs[q]? with
   |some .gone=>σ.forget b j
   |_=>σ
  |_=>σ)
def dA(bs:List BP):List (Nat×XP)→St→St
 |[],σ=>σ
 |(i,p)::l,σ=>dA bs l (match p with
  | .c (.ptr k _)=>match bs[k]?,σ.tm[i]? with
   |some (.mem ps),some (.c (.IC b _))=>Wy bs b 0 ps σ
   |_,_=>σ
  |_=>σ)
def jump(nb:Nat)(s:Ba)(f:s.V→Option Y)(σ:St):Option Y:=
 if nb≤s.Gr.length then
  let σ:=dA s.Gr s.Dy (PT s.Gr s.Dy σ)
  (s.fit σ.bx.length (TW 0 nb s.Gr) σ.tm (s.opens σ.bx)).bind fun q=>f q.1
 else none
end
end Go.Fw
end
section
namespace Go.Fw
def Bc(w:World)(b o:Nat)(cs:List Value):Prop:= ∀j v,cs[j]? =some v→w.cell? ⟨b,o+j,none⟩=some v
def Rd(w:World)(B:Nat→Prop):(t:Ty)→List Value→t.D→Prop
 | .int k,vs,x=>vs=[.int k x]
 | .bool,vs,x=>vs=[.bool x]
 | .str,vs,x=>vs=[.string ⟨x.toArray⟩]
 | .sl r,vs,x=> ∃a cap,vs=[.slice a (List.length x) cap]∧List.length x≤cap∧(List.length x=0∨ ∃b o,a=some ⟨b,o,none⟩∧B b∧
  ∀(i:Nat) (y:r.D),x[i]? =some y→ ∃cs,cs.length=r.n∧Bc w b (o+i*r.n) cs∧Rd w B r cs y)
 | .unit,vs,_=>vs=[]
 | .cons c r,vs,x=> ∃v l,vs=v::l∧Rd w B c [v] x.1∧Rd w B r l x.2
def vy(fr:AC7)(n:Nat):Prop:= ∀i,i<n→ ¬(fr.1≤i∧i<fr.2)
def mk:Ty→Nat
 | .int .u8=>0
 |_=>1
def Ow(w:World)(S:Nat→Prop):(d:Nat)→(t:Ty)→List Value→t.D→List Nat→Prop
 |0,.sl r,vs,x,F=>Rd w S (.sl r) vs x∧F=[]
 |d+1,.sl r,vs,x,F=> ∃a cap,vs=[.slice a (List.length x) cap]∧List.length x≤cap∧
  ((
   cap=0∧F=[])∨ ∃b o arr ty fr Fs,a=some ⟨b,o,none⟩∧w.heap[b]? =some (.cells arr ty fr)∧o+cap*r.n≤arr.size∧vy fr (arr.size+mk r)∧
   F=b::List.flatten Fs∧Fs.length=List.length x∧
   ∀(i:Nat) (y:r.D) (G:AA4),x[i]? =some y→Fs[i]? =some G→ ∃cs,cs.length=r.n∧Bc w b (o+i*r.n) cs∧Ow w S d r cs y G)
 |d,.cons c r,vs,x,F=> ∃v l F1 F2,vs=v::l∧F=F1++F2∧Ow w S d c [v] x.1 F1∧Ow w S d r l x.2 F2
 |_,.unit,vs,_,F=>vs=[]∧F=[]
 |_,.int k,vs,x,F=>vs=[.int k x]∧F=[]
 |_,.bool,vs,x,F=>vs=[.bool x]∧F=[]
 |_,.str,vs,x,F=>vs=[.string ⟨x.toArray⟩]∧F=[]
theorem lQ{w B}:∀{t:Ty} {vs x},Rd w B t vs x→vs.length=t.n
 | .int _,_,_,h=>by simp only[Rd]at h;subst h;rfl
 | .bool,_,_,h=>by simp only[Rd]at h;subst h;rfl
 | .str,_,_,h=>by simp only[Rd]at h;subst h;rfl
 | .sl _,_,_,h=>by simp only[Rd]at h;obtain⟨_,_,h,_⟩:=h;subst h;rfl
 | .unit,_,_,h=>by simp only[Rd]at h;subst h;rfl
 | .cons _ _,_,_,h=>by
  simp only[Rd]at h;obtain⟨_,_,rfl,_,h⟩:=h;simp[Ty.n,lQ h]
theorem XT{w S}:∀{d} {t:Ty} {vs x F},Ow w S d t vs x F→vs.length=t.n
 |_,.int _,_,_,_,h=>by simp only[Ow]at h;rw[h.1];rfl
 |_,.bool,_,_,_,h=>by simp only[Ow]at h;rw[h.1];rfl
 |_,.str,_,_,_,h=>by simp only[Ow]at h;rw[h.1];rfl
 |0,.sl _,_,_,_,h=>by grind[Ow,lQ]
 |_+1,.sl _,_,_,_,h=>by simp only[Ow]at h;obtain⟨_,_,h,_⟩:=h;subst h;rfl
 |_,.unit,_,_,_,h=>by simp only[Ow]at h;rw[h.1];rfl
 |_,.cons _ _,_,_,_,h=>by
  simp only[Ow]at h;obtain⟨_,_,_,_,rfl,_,_,h⟩:=h;simp[Ty.n,XT h]
theorem Bc.of_block{w w':World}{b o:Nat}{cs:List Value}(h:Bc w b o cs)(hb:w'.heap[b]? =w.heap[b]?):Bc w' b o cs:=
 fun j v hj=>(World.cell?_of_block (a:=⟨b,o+j,none⟩) hb).trans (h j v hj)
theorem Fj{w w':World}{B B':Nat→Prop}(hB:∀b,B b→B' b)(hw:∀b,B b→w'.heap[b]? =w.heap[b]?):∀{t:Ty} {vs x},Rd w B t vs x→Rd w' B' t vs x
 | .int _,_,_,h=>by grind[Rd]
 | .bool,_,_,h=>by grind[Rd]
 | .str,_,_,h=>by grind[Rd]
 | .unit,_,_,h=>by grind[Rd]
 | .sl r,_,_,h=>by
  simp only[Rd]at h⊢;obtain⟨a,cap,h1,h2,h3⟩:=h;refine⟨a,cap,h1,h2,h3.imp id ?_⟩
  rintro⟨b,o,ha,hb,h⟩
  refine⟨b,o,ha,hB b hb,fun i y hy=> ?_⟩;obtain⟨cs,hl,hc,hr⟩:=h i y hy;exact⟨cs,hl,hc.of_block (hw b hb),Fj hB hw hr⟩
 | .cons _ _,_,_,h=>by
  simp only[Rd]at h⊢;obtain⟨v,l,h1,h2,h3⟩:=h;exact⟨v,l,h1,Fj hB hw h2,Fj hB hw h3⟩
theorem EX{w w':World}{S S':Nat→Prop}(hS:∀b,S b→S' b)(hw:∀b,S b→w'.heap[b]? =w.heap[b]?):
  ∀{d} {t:Ty} {vs x F},(∀b∈F,w'.heap[b]? =w.heap[b]?)→Ow w S d t vs x F→Ow w' S' d t vs x F
 |_,.int _,_,_,_,_,h=>by grind[Ow]
 |_,.bool,_,_,_,_,h=>by grind[Ow]
 |_,.str,_,_,_,_,h=>by grind[Ow]
 |_,.unit,_,_,_,_,h=>by grind[Ow]
 |0,.sl r,_,_,_,_,h=>by
  grind[Ow,Fj]
 |d+1,.sl r,_,x,F,hF,h=>by
  simp only[Ow]at h⊢;obtain⟨a,cap,h1,h2,h3⟩:=h;refine⟨a,cap,h1,h2,h3.imp id ?_⟩
  rintro⟨b,o,arr,ty,fr,Fs,ha,hb,h4,h5,h6,h7,h⟩
  subst h6;have hbb:=hF b (by simp);refine⟨b,o,arr,ty,fr,Fs,ha,hbb.trans hb,h4,h5,rfl,h7,fun i y G hy hG=> ?_⟩;obtain⟨cs,hl,hc,hr⟩:=h i y G hy hG;refine⟨cs,hl,hc.of_block hbb,EX hS hw (fun c hc=>hF c ?_) hr⟩;grind[List.mem_cons_of_mem,List.mem_flatten,List.mem_of_getElem?]
 |_,.cons _ _,_,_,_,hF,h=>by
  simp only[Ow]at h⊢;obtain⟨v,l,F1,F2,h1,h2,h3,h4⟩:=h;subst h2;exact⟨v,l,F1,F2,h1,rfl,EX hS hw (fun c hc=>hF c (by simp[hc])) h3,EX hS hw (fun c hc=>hF c (by simp[hc])) h4⟩
theorem Wo{w:World}{S:Nat→Prop}:∀{d} {t:Ty} {vs x F},Ow w S d t vs x F→Rd w (fun b=>S b∨b∈F) t vs x
 |_,.int _,_,_,_,h=>by grind[Ow,Rd]
 |_,.bool,_,_,_,h=>by grind[Ow,Rd]
 |_,.str,_,_,_,h=>by grind[Ow,Rd]
 |_,.unit,_,_,_,h=>by grind[Ow,Rd]
 |0,.sl r,_,_,_,h=>by
  simp only[Ow]at h;simp_all
 |d+1,.sl r,_,x,F,h=>by
  simp only[Ow]at h;simp only[Rd];obtain⟨a,cap,h1,h2,h3⟩:=h;refine⟨a,cap,h1,h2,?_⟩;rcases h3 with⟨hc,_⟩|⟨b,o,arr,ty,fr,Fs,ha,hb,h4,h5,h6,h7,h⟩
  ·omega
  ·refine .inr ⟨b,o,ha,.inr (by simp[h6]),fun i y hy=> ?_⟩
   have hi:i<Fs.length:=by
    grind
   obtain⟨cs,hl,hc,hr⟩:=h i y Fs[i] hy (AL5 hi);refine⟨cs,hl,hc,Fj ?_ (fun _ _=>rfl) (Wo hr)⟩;grind[List.mem_cons_of_mem,List.mem_flatten,List.getElem_mem]
 |_,.cons _ _,_,_,_,h=>by
  simp only[Ow]at h;simp only[Rd];obtain⟨v,l,F1,F2,h1,h2,h3,h4⟩:=h;subst h2;refine⟨v,l,h1,Fj ?_ (fun _ _=>rfl) (Wo h3),Fj ?_ (fun _ _=>rfl) (Wo h4)⟩
  all_goals grind
theorem Jm{w:World}{S:Nat→Prop}:∀{d d'} {t:Ty} {vs x F},d≤d'→Ow w S d' t vs x F→
  ∃F1 F2,F.Perm (F1++F2)∧Ow w (fun b=>S b∨b∈F2) d t vs x F1
 |_,_,.int _,_,_,_,_,h=>by simp only[Ow]at h⊢;simp_all
 |_,_,.bool,_,_,_,_,h=>by simp only[Ow]at h⊢;simp_all
 |_,_,.str,_,_,_,_,h=>by simp only[Ow]at h⊢;simp_all
 |_,_,.unit,_,_,_,_,h=>by simp only[Ow]at h⊢;simp_all
 |0,d',.sl r,_,x,F,_,h=>by
  refine⟨[],F,by simp,?_⟩;simp only[Ow];exact⟨Wo h,trivial⟩
 |d+1,0,.sl r,_,x,F,hd,h=>by omega
 |d+1,d'+1,.sl r,_,x,F,hd,h=>by
  simp only[Ow]at h⊢;obtain⟨a,cap,h1,h2,h3⟩:=h;rcases h3 with⟨hc,hF⟩|⟨b,o,arr,ty,fr,Fs,ha,hb,h4,h5,h6,h7,h⟩
  ·simp_all
  ·have key:∀(n:Nat) (Fs:List AA4) (y:List r.D),Fs.length=n→y.length=n→(∀(i:Nat) (z:r.D) (G:AA4),y[i]? =some z→Fs[i]? =some G→ ∃cs,cs.length=r.n∧Bc w b (o+i*r.n) cs∧Ow w S d' r cs z G)→
     ∃(Gs:List AA4) (F2:AA4),Fs.flatten.Perm (Gs.flatten++F2)∧Gs.length=n∧ ∀(i:Nat) (z:r.D) (G:AA4),y[i]? =some z→Gs[i]? =some G→ ∃cs,cs.length=r.n∧Bc w b (o+i*r.n) cs∧Ow w (fun b=>S b∨b∈F2) d r cs z G:=by
    intro n
    induction n with
    |zero=>
     simp_all
    |succ n ih=>
     intro Fs y hF hy hh;obtain⟨Fs',G0,rfl⟩:∃l a,Fs=l++[a]:=⟨Fs.dropLast,Fs.getLast (by grind),(List.dropLast_concat_getLast _).symm⟩;obtain⟨y',z0,rfl⟩:∃l a,y=l++[a]:=⟨y.dropLast,y.getLast (by grind),(List.dropLast_concat_getLast _).symm⟩;simp only[APB,ANZ,AQZ]at hF hy;obtain⟨Gs,F2,hp,hl,hg⟩:=ih Fs' y' (by omega) (by omega) (fun i z G hz hG=>hh i z G
      (by grind) (by grind))
     obtain⟨cs,cO,hc,ho⟩:=hh n z0 G0 (by simp_all) (by simp_all);obtain⟨H1,H2,hhp,hho⟩:=Jm (d:=d) (d':=d') (by omega) ho;refine⟨Gs++[H1],F2++H2,?_,by simp[hl],?_⟩
     ·grind
     ·intro i z G hz hG
      by_cases hi:i<n
      ·rw[ANd (by omega)]at hz hG
       obtain⟨cs,e1,e2,e3⟩:=hg i z G hz hG;exact⟨cs,e1,e2,EX (by grind) (fun _ _=>rfl) (fun _ _=>rfl) e3⟩
      ·have:i=n:=by
        grind
       subst this;rw[ANr (by omega)]at hz hG;simp[show i-y'.length=0 by omega,show i-Gs.length=0 by omega]at hz hG;subst hz hG;exact⟨cs,cO,hc,EX (by grind) (fun _ _=>rfl) (fun _ _=>rfl) hho⟩
   obtain⟨Gs,F2,hp,hl,hg⟩:=key _ Fs x h7 rfl h;refine⟨b::Gs.flatten,F2,?_,a,cap,h1,h2,.inr ⟨b,o,arr,ty,fr,Gs,ha,hb,h4,h5,rfl,hl,hg⟩⟩;simp_all
 |d,d',.cons _ _,_,_,_,hd,h=>by
  simp only[Ow]at h⊢;obtain⟨v,l,F1,F2,h1,h2,h3,h4⟩:=h;obtain⟨A1,A2,pa,oa⟩:=Jm hd h3;obtain⟨B1,B2,pb,ob⟩:=Jm hd h4;refine⟨A1++B1,A2++B2,?_,v,l,A1,B1,h1,rfl,EX (by grind) (fun _ _=>rfl) (fun _ _=>rfl) oa,EX (by grind) (fun _ _=>rfl) (fun _ _=>rfl) ob⟩;grind
def RB(w:World):(t:Ty)→List Value→t.D→Nat→Prop
 | .sl r,vs,x,c=> ∃b o len cap,vs=[.slice (some ⟨b,o,none⟩) len cap]∧0<List.length x∧
  (c=b∨ ∃(i:Nat) (y:r.D) (cs:List Value),x[i]? =some y∧cs.length=r.n∧Bc w b (o+i*r.n) cs∧RB w r cs y c)
 | .cons c r,vs,x,d=> ∃v l,vs=v::l∧(RB w c [v] x.1 d∨RB w r l x.2 d)
 |_,_,_,_=>False
theorem Bc.unique{w:World}{b o:Nat}{cs ds:List Value}(h:Bc w b o cs)(k:Bc w b o ds)(hl:cs.length=ds.length):cs=ds:=by
 apply List.ext_getElem hl;intro i h1 h2;have e1:=h i _ (AL5 h1);have e2:=k i _ (AL5 h2);simp_all
theorem uB{w:World}{B:Nat→Prop}{c:Nat}:∀{t:Ty} {vs x},Rd w B t vs x→RB w t vs x c→B c
 | .int _,_,_,_,h=>by simp[RB]at h
 | .bool,_,_,_,h=>by simp[RB]at h
 | .str,_,_,_,h=>by simp[RB]at h
 | .unit,_,_,_,h=>by simp[RB]at h
 | .sl r,_,x,h,k=>by
  simp only[Rd]at h;simp only[RB]at k;obtain⟨a,cap,rfl,_,h⟩:=h;obtain⟨b,o,len,cap',e,hl,k⟩:=k;simp only[AQj,Value.slice.injEq,ATG]at e;obtain⟨rfl,rfl,rfl⟩:=e;rcases h with h|⟨b',o',e,hb,h⟩
  ·omega
  simp only[AMF,Addr.mk.injEq,ATG]at e;obtain⟨rfl,rfl⟩:=e;rcases k with rfl|⟨i,y,cs,hy,cO,hca,k⟩
  ·omega
  ·obtain⟨ds,d1,d2,d3⟩:=h i y hy
   have:=hca.unique d2 (by omega);subst this;exact uB d3 k
 | .cons _ _,_,_,h,k=>by
  simp only[Rd]at h;simp only[RB]at k;obtain⟨v,l,rfl,h1,h2⟩:=h;obtain⟨v',l',e,k⟩:=k;cases e;exact k.elim (uB h1) (uB h2)
theorem nV{w w':World}{c:Nat}:∀{t:Ty} {vs x},(∀d,RB w t vs x d→w'.heap[d]? =w.heap[d]?)→RB w t vs x c→RB w' t vs x c
 | .int _,_,_,_,h=>by simp[RB]at h
 | .bool,_,_,_,h=>by simp[RB]at h
 | .str,_,_,_,h=>by simp[RB]at h
 | .unit,_,_,_,h=>by simp[RB]at h
 | .sl r,_,x,h,k=>by
  simp only[RB]at h k⊢;obtain⟨b,o,len,cap,e,hl,k⟩:=k;refine⟨b,o,len,cap,e,hl,?_⟩;rcases k with rfl|⟨i,y,cs,hy,cO,hca,k⟩
  ·omega
  ·have hb:=h b ⟨b,o,len,cap,e,hl,.inl rfl⟩
   exact .inr ⟨i,y,cs,hy,cO,hca.of_block hb,nV (fun d hd=>h d ⟨b,o,len,cap,e,hl,.inr ⟨i,y,cs,hy,cO,hca,hd⟩⟩) k⟩
 | .cons _ _,_,_,h,k=>by
  simp only[RB]at h k⊢;obtain⟨v,l,e,k⟩:=k;refine⟨v,l,e,k.elim (fun k=> .inl (nV (fun d hd=>h d ⟨v,l,e,.inl hd⟩) k)) (fun k=> .inr (nV (fun d hd=>h d ⟨v,l,e,.inr hd⟩) k))⟩
end Go.Fw
end
section
namespace Go.Fw
def CT{α β:Type}(R:α→β→Prop):List α→List β→Prop
 |[],[]=>True
 |a::l,b::m=>R a b∧CT R l m
 |_,_=>False
theorem CT.len{α β:Type}{R:α→β→Prop}:∀{l:List α} {m:List β},CT R l m→l.length=m.length
 |[],[],_=>rfl
 |_::_,_::_,h=>by simp[CT.len h.2]
theorem CT.get{α β:Type}{R:α→β→Prop}:∀{l:List α} {m:List β} {i:Nat} {a:α},CT R l m→l[i]? =some a→ ∃b,m[i]? =some b∧R a b
 |_::_,_::_,0,a,h,e=>by simp at e;subst e;exact⟨_,rfl,h.1⟩
 |_::_,_::_,i+1,a,h,e=>by
  obtain⟨b,hb,hr⟩:=CT.get (i:=i) h.2 (by simpa using e);simp_all
 |[],[],_,_,_,e=>by simp at e
theorem CT.imp{α β:Type}{R S:α→β→Prop}(h:∀a b,R a b→S a b):∀{l:List α} {m:List β},CT R l m→CT S l m
 |[],[],_=>trivial
 |_::_,_::_,k=>⟨h _ _ k.1,CT.imp h k.2⟩
structure Env where
 Hk:Nat→Nat
 Hl:Nat→Value
 T:Nat→Prop
 S:Nat→Prop
def Ij(w:World):Value→List WN→Option Value
 |h,[]=>some h
 | .slice (some a) _ _,s::p=>
  match w.cell? ⟨a.block,a.off+s.i*s.sz+s.j,none⟩with
  |some h=>Ij w h p
  |none=>none
 |_,_::_=>none
def DA:(r:Ty)→List r.D→List WN→Prop
 |_,_,[]=>True
 |r,rows,s::p=>s.i<rows.length∧s.sz=r.n∧
  match BR r s.j (rowAt r rows s.i)with
  |some ⟨.sl q,x⟩=>DA q x p
  |_=>False
def Uy(sz off n:Nat)(a:Option Addr)(cap:Nat):Value:=
 .slice (if cap=off then a else a.map (·.add (off*sz))) n (cap-off)
def isSlice:Value→Bool
 | .slice .. =>true
 |_=>false
def cL:Value→Bool
 | .pointer (some ⟨_,_,none⟩)=>true
 |_=>false
def RA(E:Env)(w:World)(q:(r:Ty)×r.D)(p:Value):Prop:= ∃bb o cs,p= .pointer (some ⟨bb,o,none⟩)∧E.T bb∧cs.length=q.1.n∧Bc w bb o cs∧Rd w E.T q.1 cs q.2
def VR(E:Env)(w:World)(vw:List Bx):AV→Value→Prop
 | .v t x,v=>t.scalar=true∧Rd w (fun _=>False) t [v] x
 | .sl s r x,v=>Rd w (if s then E.S else E.T) (.sl r) [v] x
 | .nil,v=>v= .slice none 0 0
 | .ref b p,v=>isSlice v=true∧match vw[b]? with
  |some (.sl _ r rows)=>DA r rows p∧(∃q,Gy r rows p=some q)∧Ij w (E.Hl b) p=some v
  |some _=>True
  |none=>False
 | .win b p off n,v=>isSlice v=true∧match vw[b]? with
  |some (.sl _ r rows)=>DA r rows p∧ ∃q ys a len cap,Gy r rows p=some ⟨q,ys⟩∧off+n≤List.length ys∧Ij w (E.Hl b) p=some (.slice a len cap)∧v=Uy q.n off n a cap
  |some _=>True
  |none=>False
 | .IC b j,v=>b<vw.length∧v= .pointer (some ⟨E.Hk b,j,none⟩)
 | .JQ b p i sz j,v=>cL v=true∧match vw[b]? with
  |some (.sl _ r rows)=>DA r rows p∧ ∃q ys bb o len cap,Gy r rows p=some ⟨q,ys⟩∧i<List.length ys∧Ij w (E.Hl b) p=some (.slice (some ⟨bb,o,none⟩) len cap)∧v= .pointer (some ⟨bb,o+i*sz+j,none⟩)
  |some _=>True
  |none=>False
 | .PE s r x j,v=> ∃bb o cs,v= .pointer (some ⟨bb,o+j,none⟩)∧(if s then E.S else E.T) bb∧cs.length=r.n∧Bc w bb o cs∧Rd w (if s then E.S else E.T) r cs x
 | .fn f J8,v=>(∀b∈J8,b<vw.length)∧v= .func (.func f) #[] (J8.map fun b=>Value.pointer (some ⟨E.Hk b,0,none⟩)).toArray
 | .qt f rows,v=> ∃ps:List Value,v= .func (.func f) #[] ps.toArray∧CT (RA E w) rows ps
 | .yW,v=>v= .pointer none
 | .undef,_=>True
def iz(E:Env)(w:World)(vw:List Bx)(l:List AV)(vs:List Value):Prop:=CT (VR E w vw) l vs
def TR(E:Env)(w:World)(vw:List Bx):AV ⊕ List AV→Value→Prop
 | .inl x,v=>VR E w vw x v
 | .inr q,v=> ∃vs,v= .agg vs∧iz E w vw q vs.toList
def XR(E:Env)(w:World)(vw:List Bx):XV→Value→Prop
 | .c x,v=>VR E w vw x v
 | .agg l,v=> ∃vs,v= .agg vs∧iz E w vw l vs.toList
 | .MH l,v=> ∃vs,v= .tuple vs∧CT (TR E w vw) l vs.toList
def n0(E:Env)(w:World)(vw:List Bx)(k:Nat):Bx→List Nat→Prop
 | .mem cs,F=>F=[E.Hk k]∧ ∃arr ty fr,w.heap[E.Hk k]? =some (.cells arr ty fr)∧vy fr (arr.size+1)∧iz E w vw cs arr.toList
 | .sl d r rows,F=>1≤d∧Ow w E.S d (.sl r) [E.Hl k] rows F
 | .dead,F=>F=[]
structure Sep (E:Env) (w:World) (F:AA4):Prop where
 nodup:F.Nodup
 free:∀c∈F,¬E.T c
 lt:∀c∈F,c<w.heap.size
 st:∀c,E.S c→E.T c
 cS:∀c,E.T c→c<w.heap.size
def NB(E:Env)(w:World)(vw bx:List Bx)(Fs:List AA4):Prop:=
 Fs.length=bx.length∧ ∀k B F,bx[k]? =some B→Fs[k]? =some F→n0 E w vw k B F
def C9(E:Env)(w:World)(vw bx:List Bx)(G:AA4):Prop:=
 ∃Fs,NB E w vw bx Fs∧Sep E w (Fs.flatten++G)
structure Le (E E':Env):Prop where
 Hk:E'.Hk=E.Hk
 Hl:E'.Hl=E.Hl
 T:∀c,E.T c→E'.T c
 S:∀c,E.S c→E'.S c
 Tof:∀c,E'.T c→E.T c∨E'.S c
 Sof:∀c,E'.S c→E.S c∨ ¬E.T c
theorem Le.refl(E:Env):Le E E:=⟨rfl,rfl,fun _ h=>h,fun _ h=>h,fun _ h=> .inl h,fun _ h=> .inl h⟩
theorem Le.trans{E E' E'':Env}(h:Le E E')(k:Le E' E''):Le E E'':=
 ⟨k.Hk.trans h.Hk,k.Hl.trans h.Hl,fun c hc=>k.T c (h.T c hc),fun c hc=>k.S c (h.S c hc),
  fun c hc=>(k.Tof c hc).elim (fun h' =>(h.Tof c h').imp id (k.S c)) .inr,
  fun c hc=>(k.Sof c hc).elim (h.Sof c) (fun h' => .inr fun ht=>h' (h.T c ht))⟩
theorem eS{w B}:∀{r:Ty} {cs x j t y},Rd w B r cs x→BR r j x=some ⟨t,y⟩→ ∃v,cs[j]? =some v∧Rd w B t [v] y
 | .cons c r,cs,x,0,t,y,h,e=>by
  simp only[Rd]at h;obtain⟨v,l,rfl,h1,h2⟩:=h;simp only[BR,AMF,AM9]at e;grind
 | .cons c r,cs,x,j+1,t,y,h,e=>by
  simp only[Rd]at h;obtain⟨v,l,rfl,h1,h2⟩:=h;simp only[BR]at e;obtain⟨u,hu,hr⟩:=eS h2 e;simp_all
 | .int k,cs,x,0,t,y,h,e=>by
  simp only[BR,AMF,AM9]at e;obtain⟨rfl,e⟩:=e;obtain rfl:=ARx e;simp only[Rd]at h;subst h;exact⟨_,rfl,by rfl⟩
 | .bool,cs,x,0,t,y,h,e=>by
  simp only[BR,AMF,AM9]at e;obtain⟨rfl,e⟩:=e;obtain rfl:=ARx e;simp only[Rd]at h;subst h;exact⟨_,rfl,by rfl⟩
 | .str,cs,x,0,t,y,h,e=>by
  simp only[BR,AMF,AM9]at e;obtain⟨rfl,e⟩:=e;obtain rfl:=ARx e;simp only[Rd]at h;subst h;exact⟨_,rfl,by rfl⟩
 | .sl r,cs,x,0,t,y,h,e=>by
  simp only[BR,AMF,AM9]at e;obtain⟨rfl,e⟩:=e;obtain rfl:=ARx e;have h':=h;simp only[Rd]at h;grind
 | .unit,_,_,_,_,_,_,e=>by simp[BR]at e
 | .int _,_,_,_+1,_,_,_,e=>by simp[BR]at e
 | .bool,_,_,_+1,_,_,_,e=>by simp[BR]at e
 | .str,_,_,_+1,_,_,_,e=>by simp[BR]at e
 | .sl _,_,_,_+1,_,_,_,e=>by simp[BR]at e
theorem Qc{r:Ty}{rows:List r.D}{i:Nat}(h:i<rows.length):rows[i]? =some (rowAt r rows i):=by
 simp[rowAt,h]
theorem nj{w:World}{B:Nat→Prop}:∀{p:List WN} {r:Ty} {h:Value} {rows:List r.D} {q:Ty} {ys:List q.D},
  Rd w B (.sl r) [h] rows→DA r rows p→Gy r rows p=some ⟨q,ys⟩→
  ∃h',(∀w':World,(∀b,B b→w'.heap[b]? =w.heap[b]?)→Ij w' h p=some h')∧Rd w B (.sl q) [h'] ys
 |[],r,h,rows,q,ys,hr,_,hg=>by
  simp only[Gy,AMF,AM9]at hg;obtain⟨rfl,e⟩:=hg;obtain rfl:=ARx e;exact⟨h,fun w' _=>by rfl,hr⟩
 |s::p,r,h,rows,q,ys,hr,hp,hg=>by
  simp only[DA]at hp;obtain⟨hi,PC,hp⟩:=hp;simp only[Gy]at hg;simp only[Rd]at hr;obtain⟨a,cap,hh,_,hr⟩:=hr;obtain rfl:=(List.cons.inj hh).1;rcases hr with hr|⟨b,o,rfl,hb,hr⟩
  ·omega
  obtain⟨cs,hl,hc,hrow⟩:=hr s.i _ (Qc hi);split at hg
  ·rename_i q' x' fz
   rw[fz]at hp;obtain⟨v,hv,hrv⟩:=eS hrow fz;obtain⟨h',hh',Xn⟩:=nj hrv hp hg;refine⟨h',fun w' rI=> ?_,Xn⟩;simp only[Ij];have Z4:w'.cell? ⟨b,o+s.i*s.sz+s.j,none⟩=some v:=by
    rw[PC];exact(World.cell?_of_block (a:=⟨b,_,none⟩) (rI b hb)).trans (hc _ _ hv)
   simp_all
  simp_all
theorem C8{w:World}{h:Value}:Ij w h []=some h:=by rfl
structure SW (E:Env) (w:World) (vw:List Bx) (E':Env) (w':World) (vw':List Bx):Prop where
 len:vw.length≤vw'.length
 Hk:∀b,b<vw.length→E'.Hk b=E.Hk b
 T:∀b,E.T b→E'.T b
 S:∀b,E.S b→E'.S b
 st:∀b,E.S b→E.T b
 heap:∀b,E.T b→w'.heap[b]? =w.heap[b]?
 box:∀b d r rows,b<vw.length→vw'[b]? =some (.sl d r rows)→ ∃d0 Rz,vw[b]? =some (.sl d0 r Rz)∧
  ∀p,DA r Rz p→ ∀q ys,Gy r Rz p=some ⟨q,ys⟩→DA r rows p∧(∃vU,Gy r rows p=some ⟨q,vU⟩∧List.length vU=List.length ys)∧
   ∀h,Ij w (E.Hl b) p=some h→Ij w' (E'.Hl b) p=some h
theorem PG{α:Type}{l l':List α}{b:Nat}{x:α}(h:l.length≤l'.length)(e:l[b]? =some x):∃y,l'[b]? =some y:=
 ⟨l'[b]'(ATB (AMK.1 e).1 h),AL5 _⟩
theorem GH{E E':Env}{w w':World}{vw vw':List Bx}(k:SW E w vw E' w' vw'):∀{x:AV} {v:Value},VR E w vw x v→VR E' w' vw' x v:=by
 intro x v h;cases x with
 |v t x=>exact⟨h.1,Fj (fun _ h=>h) (fun _ h=>h.elim) h.2⟩
 |sl s r x=>
  simp only[VR]at h⊢;cases s with
  |false=>exact Fj k.T k.heap (by simp_all)
  |true=>exact Fj k.S (fun b hb=>k.heap b (k.st b hb)) (by simp_all)
 |nil=>exact h
 |ref b p=>
  simp only[VR]at h⊢;obtain⟨h0,h⟩:=h;refine⟨h0,?_⟩;cases e:vw[b]? with
  |none=>simp_all
  |some B=>
   rw[e]at h;have Kg:=(AMK.1 e).1;obtain⟨B',e'⟩:=PG k.len e;rw[e'];cases B' with
   |mem cs=>trivial
   |dead=>trivial
   |sl d r rows=>
    obtain⟨d0,Rz,e0,hk⟩:=k.box b d r rows Kg e';grind
 |win b p off n=>
  simp only[VR]at h⊢;obtain⟨h0,h⟩:=h;refine⟨h0,?_⟩;cases e:vw[b]? with
  |none=>simp_all
  |some B=>
   rw[e]at h;have Kg:=(AMK.1 e).1;obtain⟨B',e'⟩:=PG k.len e;rw[e'];cases B' with
   |mem cs=>trivial
   |dead=>trivial
   |sl d r rows=>
    obtain⟨d0,Rz,e0,hk⟩:=k.box b d r rows Kg e';grind
 |IC b j=>exact⟨ATB h.1 k.len,by rw[h.2,k.Hk b h.1]⟩
 |JQ b p i sz j=>
  simp only[VR]at h⊢;obtain⟨h0,h⟩:=h;refine⟨h0,?_⟩;cases e:vw[b]? with
  |none=>simp_all
  |some B=>
   rw[e]at h;have Kg:=(AMK.1 e).1;obtain⟨B',e'⟩:=PG k.len e;rw[e'];cases B' with
   |mem cs=>trivial
   |dead=>trivial
   |sl d r rows=>
    obtain⟨d0,Rz,e0,hk⟩:=k.box b d r rows Kg e';grind
 |PE s r x j=>
  simp only[VR]at h⊢;obtain⟨bb,o,cs,hv,hb,hl,hc,hr⟩:=h;cases s with
  |false=>exact⟨bb,o,cs,hv,k.T bb (by simp_all),hl,hc.of_block (k.heap bb (by simp_all)),Fj k.T k.heap (by simp_all)⟩
  |true=>exact⟨bb,o,cs,hv,k.S bb (by simp_all),hl,hc.of_block (k.heap bb (k.st bb (by simp_all))),Fj k.S (fun b hb=>k.heap b (k.st b hb)) (by simp_all)⟩
 |fn f J8=>
  refine⟨fun b hb=>ATB (h.1 b hb) k.len,?_⟩;rw[h.2];congr 2;exact ATF fun b hb=>by rw[k.Hk b (h.1 b hb)]
 |qt f rows=>
  obtain⟨ps,hv,h⟩:=h;exact⟨ps,hv,h.imp fun q p ⟨bb,o,cs,h1,h2,h3,h4,h5⟩=>⟨bb,o,cs,h1,k.T bb h2,h3,h4.of_block (k.heap bb h2),Fj k.T k.heap h5⟩⟩
 |yW=>exact h
 |undef=>trivial
theorem Og{E E':Env}{w w':World}{vw vw':List Bx}(k:SW E w vw E' w' vw'):∀{x:XV} {v:Value},XR E w vw x v→XR E' w' vw' x v
 | .c _,_,h=>GH k h
 | .agg _,_,⟨vs,hv,h⟩=>⟨vs,hv,h.imp fun _ _ h=>GH k h⟩
 | .MH l,_,⟨vs,hv,h⟩=>⟨vs,hv,h.imp fun
  | .inl _,_,h=>GH k h
  | .inr _,_,⟨ws,hw,h⟩=>⟨ws,hw,h.imp fun _ _ h=>GH k h⟩⟩
theorem SW.refl{E:Env}{w:World}{vw:List Bx}(st:∀b,E.S b→E.T b):SW E w vw E w vw:=
 ⟨AQW _,fun _ _=>rfl,fun _ h=>h,fun _ h=>h,st,fun _ _=>rfl,fun b d r rows _ h=>⟨d,rows,h,fun p hp q ys hg=>⟨hp,⟨ys,hg,rfl⟩,fun _ h=>h⟩⟩⟩
theorem SW.trans{E E' E'':Env}{w w' w'':World}{vw vw' AVO:List Bx}(k:SW E w vw E' w' vw')(k':SW E' w' vw' E'' w'' AVO):SW E w vw E'' w'' AVO where
 len:=ASs k.len k'.len
 Hk:=fun b hb=>(k'.Hk b (ATB hb k.len)).trans (k.Hk b hb)
 T:=fun b h=>k'.T b (k.T b h)
 S:=fun b h=>k'.S b (k.S b h)
 st:=k.st
 heap:=fun b h=>(k'.heap b (k.T b h)).trans (k.heap b h)
 box:=fun b d r rows hb h=>by
  obtain⟨d1,AMd,h1,k1⟩:=k'.box b d r rows (ATB hb k.len) h;obtain⟨d0,Rz,h0,k0⟩:=k.box b d1 r AMd hb h1;grind
theorem uE{w w':World}{S:Nat→Prop}{d:Nat}{r:Ty}{h:Value}{rows:List r.D}{F:AA4}(ho:Ow w S d (.sl r) [h] rows F)
  (hS:∀b,S b→w'.heap[b]? =w.heap[b]?) (hF:∀b∈F,w'.heap[b]? =w.heap[b]?) {p:List WN} (hp:DA r rows p) {q:Ty} {ys:List q.D} (hg:Gy r rows p=some ⟨q,ys⟩)
  {h':Value} (hh:Ij w h p=some h'):Ij w' h p=some h':=by
 obtain⟨h1,k,_⟩:=nj (Wo ho) hp hg;grind
end Go.Fw
end
section
namespace Go.Fw
theorem CT.set{α β:Type}{R:α→β→Prop}:∀{l:List α} {m:List β} {i:Nat} {a:α} {b:β},CT R l m→R a b→CT R (l.set i a) (m.set i b)
 |[],[],_,_,_,_,_=>trivial
 |_::_,_::_,0,_,_,h,r=>⟨r,h.2⟩
 |_::_,_::_,i+1,_,_,h,r=>⟨h.1,CT.set h.2 r⟩
theorem CT.append{α β:Type}{R:α→β→Prop}:∀{l:List α} {m:List β} {l':List α} {m':List β},CT R l m→CT R l' m'→CT R (l++l') (m++m')
 |[],[],_,_,_,h=>h
 |_::_,_::_,_,_,h,k=>⟨h.1,CT.append h.2 k⟩
theorem CT.K8{α β γ:Type}{R:α→β→Prop}{S:γ→β→Prop}(f:α→γ)(h:∀a b,R a b→S (f a) b):∀{l:List α} {m:List β},CT R l m→CT S (l.map f) m
 |[],[],_=>trivial
 |_::_,_::_,k=>⟨h _ _ k.1,CT.K8 f h k.2⟩
theorem CT.drop{α β:Type}{R:α→β→Prop}:∀{l:List α} {m:List β} (n:Nat),CT R l m→CT R (l.drop n) (m.drop n)
 |_,_,0,h=>h
 |[],[],_+1,_=>trivial
 |_::_,_::_,n+1,h=>CT.drop n h.2
theorem CT.take{α β:Type}{R:α→β→Prop}:∀{l:List α} {m:List β} (n:Nat),CT R l m→CT R (l.take n) (m.take n)
 |[],[],0,_=>trivial
 |_::_,_::_,0,_=>trivial
 |[],[],_+1,_=>trivial
 |_::_,_::_,n+1,h=>⟨h.1,CT.take n h.2⟩
structure ck (E0:Env) (w0:World) (E:Env) (w:World):Prop where
 T:∀c,E0.T c→E.T c
 S:∀c,E0.S c→E.S c
 Tof:∀c,E.T c→E0.T c∨E.S c
 Sof:∀c,E.S c→E0.S c∨ ¬E0.T c
 heap:∀c,E0.T c→w.heap[c]? =w0.heap[c]?
 os:w.os=w0.os
 tape:w.tape=w0.tape
 output:w.output=w0.output
 size:w0.heap.size≤w.heap.size
theorem ck.refl(E:Env)(w:World):ck E w E w:=⟨fun _ h=>h,fun _ h=>h,fun _ h=> .inl h,fun _ h=> .inl h,fun _ _=>rfl,rfl,rfl,rfl,AQW _⟩
theorem ck.trans{E E' E'':Env}{w w' w'':World}(h:ck E w E' w')(k:ck E' w' E'' w''):ck E w E'' w'':=
 ⟨fun c hc=>k.T c (h.T c hc),fun c hc=>k.S c (h.S c hc),fun c hc=>(k.Tof c hc).elim (fun h' =>(h.Tof c h').imp id (k.S c)) .inr,
  fun c hc=>(k.Sof c hc).elim (h.Sof c) (fun h' => .inr fun ht=>h' (h.T c ht)),fun c hc=>(k.heap c (h.T c hc)).trans (h.heap c hc),
  k.os.trans h.os,k.tape.trans h.tape,k.output.trans h.output,ASs h.size k.size⟩
theorem Le.base{E E':Env}(h:Le E E')(w:World):ck E w E' w:=⟨h.T,h.S,h.Tof,h.Sof,fun _ _=>rfl,rfl,rfl,rfl,AQW _⟩
def xq(E:Env)(w:World)(k:Nat):Bx→Nat→Prop
 | .mem _,c=>c=E.Hk k
 | .sl _ r rows,c=>RB w (.sl r) [E.Hl k] rows c
 | .dead,_=>False
def Ux:Bx→Bx→Prop
 | .mem _,.mem _=>True
 | .sl _ r x,.sl _ q y=>(⟨r,x⟩:(r:Ty)×List r.D)=⟨q,y⟩
 |_,_=>False
structure Q5 (t:AA4) (E0:Env) (bx0:List Bx) (w0:World) (E:Env) (bx:List Bx) (w:World):Prop where
 base:ck E0 w0 E w
 len:bx0.length≤bx.length
 ids:∀b,b<bx0.length→E.Hk b=E0.Hk b∧E.Hl b=E0.Hl b
 dead:∀b:Nat,bx0[b]? =some Bx.dead→bx[b]? =some Bx.dead
 frame:∀(n:Nat) B B',n∉t→bx0[n]? =some B→bx[n]? =some B'→B'≠ .dead→Ux B B'∧ ∀c,xq E0 w0 n B c→w.heap[c]? =w0.heap[c]?
theorem Q5.any{E E':Env}{bx QS:List Bx}{w w':World}(h:Q5 [] E bx w E' QS w'){t:AA4}:Q5 t E bx w E' QS w':=
 ⟨h.base,h.len,h.ids,h.dead,fun n B B' _=>h.frame n B B' (by simp)⟩
theorem Ux.refl{B:Bx}(h:B≠ .dead):Ux B B:=by cases B<;>simp_all[Ux]
theorem Q5.refl(t:AA4)(E:Env)(bx:List Bx)(w:World):Q5 t E bx w E bx w:=⟨ck.refl E w,AQW _,fun _ _=>⟨rfl,rfl⟩,fun _ h=>h,fun n B B' _ h h' hd=>by
 rw[h]at h';cases h';exact⟨Ux.refl hd,fun _ _=>rfl⟩⟩
theorem eR{E:Env}{w:World}{vw:List Bx}{k:Nat}{B:Bx}{F:AA4}{c:Nat}(h:n0 E w vw k B F)(hc:xq E w k B c):E.S c∨c∈F:=by
 cases B with
 |mem cs=>obtain⟨rfl,_⟩:=h;grind[xq]
 |sl d r rows=>exact uB (Wo h.2) hc
 |dead=>exact hc.elim
structure Rel (E:Env) (σ:St) (a:Act) (w:World):Prop where
 NT:a.defers=[]
 tm:CT (XR E w σ.bx) σ.tm a.tmps.toList
 bx:C9 E w σ.bx σ.bx []
theorem Rel.put{E:Env}{σ:St}{a:Act}{w:World}(h:Rel E σ a w)(dst:Option Tmp){x:XV}{v:Value}(hx:XR E w σ.bx x v):Rel E (σ.put dst x) (a.put dst v) w:=by
 cases dst with
 |none=>exact h
 |some d=>exact⟨h.NT,by simpa[St.put,Act.put]using CT.set h.tm hx,h.bx⟩
theorem CT.ARF{E:Env}{w:World}{vw:List Bx}{l:List XV}{m:Array Value}(h:CT (XR E w vw) l m.toList)(t:Nat):XR E w vw (l.getD t (.c .undef)) (m.getD t undef):=by
 by_cases ht:t<l.length
 ·have e:l[t]? =some l[t]:=AL5 ht
  obtain⟨b,hb,hr⟩:=h.get e;simp_all
 ·have e:l[t]? =none:=by simp_all
  simp only[List.getD_eq_getElem?_getD,e,Option.getD_none]
  trivial
theorem sH{E:Env}{w:World}{vw:List Bx}(v:Value):VR E w vw (qo v) v:=by
 unfold qo;split<;>first
  |trivial
  |exact⟨rfl,by simp[Rd]⟩
  |rfl
theorem mL{E:Env}{w:World}{vw:List Bx}:∀(l:List Value),iz E w vw (l.map qo) l
 |[]=>trivial
 |a::l=>⟨sH a,mL l⟩
theorem zS{E:Env}{w:World}{vw:List Bx}(v:Value):XR E w vw (ofValue v) v:=by
 unfold ofValue;split
 ·rename_i cs
  exact⟨cs,rfl,mL cs.toList⟩
 ·exact sH v
theorem Rel.ev{E:Env}{σ:St}{a:Act}{w:World}(h:Rel E σ a w)(x:Operand):XR E w σ.bx (σ.ev x) (a.eval x):=by
 cases x with
 |tmp t=>exact CT.ARF h.tm t
 |const v=>exact zS v
 |global g=>trivial
 |func f=>exact⟨by simp,rfl⟩
theorem UP{b:Nat}:∀{Fs:List AA4} {F:AA4},Fs[b]? =some F→Fs.flatten.Perm (F++(Fs.set b []).flatten):=by
 induction b with
 |zero=>
  intro Fs F h;cases Fs with
  |nil=>simp at h
  |cons A l=>simp_all
 |succ b ih=>
  intro Fs F h;cases Fs with
  |nil=>simp at h
  |cons A l=>
   grind
theorem Sep.perm{E:Env}{w:World}{F F':AA4}(h:Sep E w F)(p:F.Perm F'):Sep E w F':=
 ⟨p.nodup_iff.1 h.nodup,fun c hc=>h.free c (p.mem_iff.2 hc),fun c hc=>h.lt c (p.mem_iff.2 hc),h.st,h.cS⟩
theorem Sep.sub{E:Env}{w:World}{F F':AA4}(h:Sep E w (F++F')):Sep E w F:=
 ⟨(ANN.1 h.nodup).1,fun c hc=>h.free c (by simp[hc]),fun c hc=>h.lt c (by simp[hc]),h.st,h.cS⟩
theorem C9.perm{E:Env}{w:World}{vw bx:List Bx}{G G':AA4}(h:C9 E w vw bx G)(p:G.Perm G'):C9 E w vw bx G':=
 let⟨Fs,h1,h2⟩:=h
 ⟨Fs,h1,h2.perm (AWs _ p)⟩
theorem C9.drop{E:Env}{w:World}{vw bx:List Bx}{G G':AA4}(h:C9 E w vw bx (G++G')):C9 E w vw bx G:=
 let⟨Fs,h1,h2⟩:=h
 ⟨Fs,h1,by rw[←AM8]at h2;exact h2.sub⟩
theorem C9.st{E:Env}{w:World}{vw bx:List Bx}{G:AA4}(h:C9 E w vw bx G):∀c,E.S c→E.T c:=let⟨_,_,h⟩:=h;h.st
theorem C9.cS{E:Env}{w:World}{vw bx:List Bx}{G:AA4}(h:C9 E w vw bx G):∀c,E.T c→c<w.heap.size:=let⟨_,_,h⟩:=h;h.cS
theorem C9.AEd{E:Env}{w:World}{vw bx:List Bx}{G:AA4}(h:C9 E w vw bx G):∀c∈G,¬E.T c:=let⟨_,_,h⟩:=h;fun c hc=>h.free c (by simp[hc])
theorem C9.take{E:Env}{w:World}{vw bx:List Bx}{G:AA4}(h:C9 E w vw bx G){b:Nat}{B:Bx}(hb:bx[b]? =some B):
  ∃F,n0 E w vw b B F∧C9 E w vw (bx.set b .dead) (F++G):=by
 obtain⟨Fs,⟨hl,h1⟩,h2⟩:=h;have Kg:=(AMK.1 hb).1;have hF:Fs[b]? =some (Fs[b]'(by omega)):=AL5 _;refine⟨_,h1 b B _ hb hF,Fs.set b [],⟨by simp_all,fun k C F hk hkF=> ?_⟩,h2.perm ?_⟩
 ·by_cases e:k=b
  ·subst e
   rw[ATT (by omega)]at hk hkF;cases hk;cases hkF;rfl
  grind
 grind[List.Perm.append_right,UP,List.append_assoc,List.perm_append_comm,trans,List.Perm.append_left]
theorem C9.put{E:Env}{w:World}{vw bx:List Bx}{F G:AA4}(h:C9 E w vw bx (F++G)){b:Nat}{B:Bx}(hb:bx[b]? =some .dead)(hB:n0 E w vw b B F):
  C9 E w vw (bx.set b B) G:=by
 obtain⟨Fs,⟨hl,h1⟩,h2⟩:=h;have Kg:=(AMK.1 hb).1;have hF:Fs[b]? =some (Fs[b]'(by omega)):=AL5 _;have e0:Fs[b]'(by omega)=[]:=h1 b _ _ hb hF;refine⟨Fs.set b F,⟨by simp_all,fun k C F' hk hkF=> ?_⟩,h2.perm ?_⟩
 ·grind
 ·have p:(Fs.set b F).flatten.Perm (F++Fs.flatten):=by
   have p1:=UP (Fs:=Fs.set b F) (b:=b) (F:=F) (ATT (by omega));rw[AXc]at p1;have p2:=UP hF;grind
  grind
theorem C9.push{E:Env}{w:World}{vw bx:List Bx}{F G:AA4}(h:C9 E w vw bx (F++G)){B:Bx}(hB:n0 E w vw bx.length B F):
  C9 E w vw (bx++[B]) G:=by
 obtain⟨Fs,⟨hl,h1⟩,h2⟩:=h;refine⟨Fs++[F],⟨by simp[hl],fun k C F' hk hkF=> ?_⟩,h2.perm (by simp)⟩;grind
theorem C9.turn{E E':Env}{w w':World}{vw vw' bx:List Bx}{G:AA4}(h:C9 E w vw bx G)(k:∀x v,VR E w vw x v→VR E' w' vw' x v)
  (hS:∀c,E.S c→E'.S c) (AFX:∀b,b<bx.length→E'.Hk b=E.Hk b) (mv:∀b,b<bx.length→E'.Hl b=E.Hl b)
  (hw:∀c,(E.S c∨(¬E.T c∧c∉G))→c<w.heap.size→w'.heap[c]? =w.heap[c]?)
  (AE0:∀F,Sep E w (F++G)→Sep E' w' (F++G)):C9 E' w' vw' bx G:=by
 obtain⟨Fs,⟨hl,h1⟩,h2⟩:=h;refine⟨Fs,⟨hl,fun n B F hn hF=> ?_⟩,AE0 _ h2⟩;have Kg:=(AMK.1 hn).1;have h3:=h1 n B F hn hF;have ARw:∀c∈F,c∈Fs.flatten:=fun c hc=>ASw.2 ⟨F,ANi hF,hc⟩
 have hFw:∀c∈F,w'.heap[c]? =w.heap[c]?:=fun c hc=>hw c (.inr ⟨h2.free c (by simp_all),fun hg=>by
  have:=(ANN.1 h2.nodup).2.2 c (ARw c hc) c hg;omega⟩) (h2.lt c (by simp_all))
 have rv:∀c,E.S c→w'.heap[c]? =w.heap[c]?:=fun c hc=>hw c (.inl hc) (h2.cS c (h2.st c hc))
 cases B with
 |mem cs=>
  obtain⟨rfl,arr,ty,fr,ha,hu,hv⟩:=h3;refine⟨by simp_all,arr,ty,fr,?_,hu,hv.imp k⟩;simp_all
 |sl d r rows=>
  obtain⟨hd,ho⟩:=h3;refine⟨hd,?_⟩;grind[EX]
 |dead=>exact h3
end Go.Fw
end
section
namespace Go.Fw
theorem Hz{β:Ty→Type}{a b:Ty}{x:β a}{y:β b}(h:QH a b x=some y):∃e:a=b,e▸x=y:=by
 grind[QH]
def FH(bk vw:List Bx):Prop:= ∀(b:Nat) (B:Bx),bk[b]? =some B→B= .dead∨vw[b]? =some B
theorem FH.refl(bx:List Bx):FH bx bx:=fun _ _ h=> .inr h
theorem Addr.add_eq(b o n:Nat):(⟨b,o,none⟩:Addr).add n=⟨b,o+n,none⟩:=by grind[Addr.add]
theorem zO{w:World}{B:Nat→Prop}{r:Ty}{a:Option Addr}{len cap:Nat}{ys:List r.D}(h:Rd w B (.sl r) [.slice a len cap] ys){off n:Nat}(hn:off+n≤ys.length):
  Rd w B (.sl r) [Uy r.n off n a cap] ((ys.drop off).take n):=by
 simp only[Rd]at h⊢;obtain⟨a',cap',e,hc,h⟩:=h;simp only[AQj,Value.slice.injEq,ATG]at e;obtain⟨rfl,rfl,rfl⟩:=e;have hl:((ys.drop off).take n).length=n:=by grind
 refine⟨_,_,by unfold Uy;rw[hl],by omega,?_⟩;rw[hl];by_cases h0:n=0
 ·omega
 ·rcases h with h|⟨b,o,rfl,hb,h⟩
  ·omega
  ·refine .inr ⟨b,o+off*r.n,?_,hb,fun i y hy=> ?_⟩
   ·rw[AMD (by omega)]
    simp[Addr.add_eq]
   grind
def og(E:Env)(Fs:List AA4)(c:Nat):Prop:=E.T c∨c∈Fs.flatten
section
variable{E:Env} {w:World} {vw bk:List Bx} {Fs:List AA4}
theorem NB.get(h:NB E w vw bk Fs){b:Nat}{B:Bx}(e:bk[b]? =some B):∃F,n0 E w vw b B F∧ ∀c∈F,c∈Fs.flatten:=by
 have Kg:=(AMK.1 e).1;have hF:Fs[b]? =some (Fs[b]'(by rw[h.1];omega)):=AL5 _;exact⟨_,h.2 b B _ e hF,fun c hc=>ASw.2 ⟨_,ANi hF,hc⟩⟩
theorem dR(hs:FH bk vw)(h:NB E w vw bk Fs)(st:∀c,E.S c→E.T c){b d:Nat}{r:Ty}{rows:List r.D}(e:bk[b]? =some (.sl d r rows))
  {p:List WN} (hp:DA r rows p) {q:Ty} {ys:List q.D} (hg:Gy r rows p=some ⟨q,ys⟩) {v:Value} (hh:Ij w (E.Hl b) p=some v):
  Rd w (og E Fs) (.sl q) [v] ys:=by
 obtain⟨F,⟨_,ho⟩,hF⟩:=h.get e;obtain⟨h',k,hr⟩:=nj (Wo ho) hp hg;have:=k w (fun _ _=>rfl);rw[hh]at this;cases this;exact Fj (fun c hc=>hc.elim (fun hc=> .inl (st c hc)) (fun hc=> .inr (hF c hc))) (fun _ _=>rfl) hr
theorem Yx(hs:FH bk vw){b d:Nat}{r:Ty}{rows:List r.D}(e:bk[b]? =some (.sl d r rows)):vw[b]? =some (.sl d r rows):=by
 rcases hs b _ e with h|h
 all_goals simp_all
theorem Zh(hs:FH bk vw)(h:NB E w vw bk Fs)(st:∀c,E.S c→E.T c){x:AV}{v:Value}(hv:VR E w vw x v){q:Ty}{ys:List q.D}(e:M_ bk x=some ⟨q,ys⟩):
  Rd w (og E Fs) (.sl q) [v] ys:=by
 cases x with
 |sl s r x=>
  simp only[M_,AMF,AM9]at e;obtain⟨rfl,e⟩:=e;obtain rfl:=ARx e;simp only[VR]at hv;refine Fj (fun c hc=> ?_) (fun _ _=>rfl) hv;cases s
  ·exact .inl (by simp_all)
  ·exact .inl (st c (by simp_all))
 |ref b p=>
  grind[M_,VR,Yx,dR]
 |win b p off n=>
  simp only[M_]at e;split at e
  ·rename_i d r rows hb
   simp only[VR,Yx hs hb]at hv;obtain⟨_,hp,q',vU,a,len,cap,hg,hl,hh,rfl⟩:=hv;rw[hg]at e;simp only[AUx,AMF,AM9]at e;obtain⟨rfl,e⟩:=e;obtain rfl:=ARx e;grind[zO,dR]
  simp_all
 |_=>simp[M_]at e
theorem UM(hs:FH bk vw)(h:NB E w vw bk Fs)(st:∀c,E.S c→E.T c){t:Ty}{x:AV}{v:Value}(hv:VR E w vw x v){y:t.D}(e:Mb bk t x=some y):
  Rd w (og E Fs) t [v] y:=by
 have sl:∀(r:Ty) (x:AV) (v:Value) (y:List r.D),VR E w vw x v→((M_ bk x).bind fun q=>QH (β:=fun r=>List r.D) q.1 r q.2)=some y→Rd w (og E Fs) (.sl r) [v] y:=by
  grind[Option.bind_eq_some_iff,Hz,Zh]
 cases x with
 |v u z=>
  simp only[Mb]at e;obtain⟨e1,e2⟩:=Hz e;subst e1;subst e2;exact Fj (fun _ hc=>hc.elim) (fun _ hc=>hc.elim) hv.2
 |nil=>
  cases t with
  |sl r=>
   simp only[Mb,AMF]at e;subst e;simp only[VR]at hv;subst hv;simp only[Rd];simp_all
  |_=>simp[Mb]at e
 |_=>
  cases t with
  |sl r=>exact sl r _ _ y hv (by simpa only[Mb]using e)
  |_=>simp[Mb]at e
theorem gY(hs:FH bk vw)(h:NB E w vw bk Fs)(st:∀c,E.S c→E.T c):∀{r:Ty} {l:List AV} {vs:List Value} {x:r.D},iz E w vw l vs→Ho bk r l=some x→
  Rd w (og E Fs) r vs x
 | .unit,[],[],x,_,_=>by rfl
 | .cons c r,a::l,v::vs,x,hv,e=>by
  simp only[Ho,AMQ,AMI]at e;obtain⟨y,e1,z,e2,rfl⟩:=e;simp only[Rd];exact⟨v,vs,rfl,UM hs h st hv.1 e1,gY hs h st hv.2 e2⟩
 | .unit,_::_,_,_,_,e=>by simp[Ho]at e
 | .unit,[],_::_,_,hv,_=>hv.elim
 | .cons _ _,[],_,_,_,e=>by simp[Ho]at e
 | .cons _ _,_::_,[],_,hv,_=>hv.elim
 | .int _,_,_,_,_,e=>by simp[Ho]at e
 | .bool,_,_,_,_,e=>by simp[Ho]at e
 | .str,_,_,_,_,e=>by simp[Ho]at e
 | .sl _,_,_,_,_,e=>by simp[Ho]at e
theorem iK{E1:Env}{xu:List Bx}(hs:FH bk vw)(h:NB E w vw bk Fs)(st:∀c,E.S c→E.T c)(hT:∀c,og E Fs c→E1.T c):
  ∀{r:Ty} {l:List AV} {vs:List Value} {x:r.D},iz E w vw l vs→Ho bk r l=some x→iz E1 w xu (pD r x) vs
 | .unit,[],[],x,_,_=>trivial
 | .cons c r,a::l,v::vs,x,hv,e=>by
  simp only[Ho,AMQ,AMI]at e;obtain⟨y,e1,z,e2,rfl⟩:=e;have Xn:=UM hs h st hv.1 e1;have tl:iz E1 w xu _ _:=iK hs h st hT hv.2 e2;cases c with
  |sl q=>
   refine⟨?_,tl⟩;simp only[VR];exact Fj hT (fun _ _=>rfl) (by omega)
  |int k=>exact⟨⟨rfl,by grind[Rd]⟩,tl⟩
  |bool=>exact⟨⟨rfl,by grind[Rd]⟩,tl⟩
  |str=>exact⟨⟨rfl,by grind[Rd]⟩,tl⟩
  |unit=>
   grind[Rd]
  |cons c' r' =>
   exfalso
   cases a with
   |v u z=>
    simp only[Mb]at e1;obtain⟨e3,_⟩:=Hz e1;subst e3;exact absurd hv.1.1 (by simp[Ty.scalar])
   |_=>simp[Mb]at e1
 | .unit,_::_,_,_,_,e=>by simp[Ho]at e
 | .unit,[],_::_,_,hv,_=>hv.elim
 | .cons _ _,[],_,_,_,e=>by simp[Ho]at e
 | .cons _ _,_::_,[],_,hv,_=>hv.elim
 | .int _,_,_,_,_,e=>by simp[Ho]at e
 | .bool,_,_,_,_,e=>by simp[Ho]at e
 | .str,_,_,_,_,e=>by simp[Ho]at e
 | .sl _,_,_,_,_,e=>by simp[Ho]at e
end
end Go.Fw
end
section
namespace Go.Fw
def Ext(m m':PK):Prop:=m'.length=m.length∧ ∀(i b:Nat),m[i]? =some (some b)→m'[i]? =some (some b)
theorem Ext.refl(m:PK):Ext m m:=⟨rfl,fun _ _ h=>h⟩
theorem Ext.trans{m m' m'':PK}(h:Ext m m')(k:Ext m' m''):Ext m m'':=⟨k.1.trans h.1,fun i b e=>k.2 i b (h.2 i b e)⟩
def qU(m:PK):Prop:= ∀(i j b:Nat),m[i]? =some (some b)→m[j]? =some (some b)→i=j
theorem dk{m m':PK}{i b:Nat}(e:m.put i b=some m'):Ext m m'∧m'[i]? =some (some b)∧(qU m→qU m'):=by
 unfold PK.put at e;split at e
 ·rename_i h
  split at e
  ·cases e
  ·rename_i hc
   cases e;have Kg:=(AMK.1 h).1;have AWq:∀(k:Nat),m[k]?≠some (some b):=fun k hk=>hc (by
    grind)
   refine⟨⟨by simp,fun k c hk=> ?_⟩,by simp[Kg],fun hi j k c hj hk=> ?_⟩
   ·grind
   ·by_cases e1:j=i<;>by_cases e2:k=i
    ·omega
    ·grind
    ·grind
    ·rw[AS4 (by omega)]at hj hk
     exact hi j k c hj hk
 all_goals grind[Ext.refl]
def SA(m:PK):List Nat→List Nat→Prop
 |[],[]=>True
 |i::is,b::bs=>m[i]? =some (some b)∧SA m is bs
 |_,_=>False
theorem SA.ext{m m':PK}(h:Ext m m'):∀{is bs},SA m is bs→SA m' is bs
 |[],[],_=>trivial
 |_::_,_::_,k=>⟨h.2 _ _ k.1,SA.ext h k.2⟩
theorem jP:∀{is bs:AA4} {m m':PK},bM m is bs=some m'→Ext m m'∧SA m' is bs∧(qU m→qU m')
 |[],[],m,m',e=>by simp only[bM,AMF]at e;subst e;exact⟨Ext.refl _,trivial,fun h=>h⟩
 |i::is,b::bs,m,m',e=>by
  simp only[bM,AMQ]at e;obtain⟨m1,e1,e2⟩:=e;obtain⟨a1,a2,a3⟩:=dk e1;obtain⟨b1,b2,b3⟩:=jP e2;exact⟨a1.trans b1,⟨b1.2 _ _ a2,b2⟩,fun h=>b3 (a3 h)⟩
 |[],_::_,_,_,e=>by simp[bM]at e
 |_::_,[],_,_,e=>by simp[bM]at e
def RL(N:Nat)(m:PK):AP→AV→Prop
 | .ref i,x=> ∃b,(x= .ref b []∨(x= .nil∧b=N+i))∧m[i]? =some (some b)
 | .ptr i j,x=> ∃b,x= .IC b j∧m[i]? =some (some b)
 | .fn f J8,x=> ∃bs,x= .fn f bs∧SA m J8 bs
 | .nil,x=>x= .nil
 | .kY i sz,x=> ∃b k j,x= .ref b [⟨k,sz,j⟩]∧m[i]? =some (some b)
 |_,_=>True
theorem RL.ext{N:Nat}{m m':PK}(h:Ext m m'){p:AP}{x:AV}(k:RL N m p x):RL N m' p x:=by
 cases p with
 |ref i=>obtain⟨b,hx,k⟩:=k;exact⟨b,hx,h.2 _ _ k⟩
 |ptr i j=>obtain⟨b,rfl,k⟩:=k;exact⟨b,rfl,h.2 _ _ k⟩
 |fn f J8=>obtain⟨bs,rfl,k⟩:=k;exact⟨bs,rfl,k.ext h⟩
 |nil=>exact k
 |kY i sz=>obtain⟨b,q,j,rfl,k⟩:=k;exact⟨b,q,j,rfl,h.2 _ _ k⟩
 |_=>trivial
theorem dF{N:Nat}{m m':PK}{p:AP}{x:AV}(e:p.NZ N m x=some m'):Ext m m'∧RL N m' p x∧(qU m→qU m'):=by
 cases p with
 |ref i=>
  cases x with
  |ref b q=>
   cases q with
   |nil=>
    obtain⟨a,b,c⟩:=dk (by simpa only[AP.NZ]using e);exact⟨a,⟨_,.inl rfl,b⟩,c⟩
   |cons _ _=>simp[AP.NZ]at e
  |nil=>
   obtain⟨a,b,c⟩:=dk (by simpa only[AP.NZ]using e);exact⟨a,⟨_,.inr ⟨rfl,rfl⟩,b⟩,c⟩
  |_=>simp[AP.NZ]at e
 |ptr i j=>
  cases x with
  |IC b j' =>
   simp only[AP.NZ]at e;split at e
   ·rename_i hj
    subst hj;obtain⟨a,b,c⟩:=dk e;exact⟨a,⟨_,rfl,b⟩,c⟩
   simp_all
  |_=>simp[AP.NZ]at e
 |fn f J8=>
  cases x with
  |fn g bs=>
   simp only[AP.NZ]at e;split at e
   ·rename_i hf
    subst hf;obtain⟨a,b,c⟩:=jP e;exact⟨a,⟨_,rfl,b⟩,c⟩
   simp_all
  |_=>simp[AP.NZ]at e
 |nil=>
  cases x with
  |nil=>simp only[AP.NZ,AMF]at e;subst e;exact⟨Ext.refl _,rfl,fun h=>h⟩
  |_=>simp[AP.NZ]at e
 |kY i sz=>
  cases x with
  |ref b q=>
   cases q with
   |nil=>simp[AP.NZ]at e
   |cons s q=>
    cases q with
    |nil=>
     simp only[AP.NZ]at e;split at e
     ·rename_i hs
      obtain⟨a,b,c⟩:=dk e;obtain⟨k,z,y⟩:=s;dsimp only at hs;subst hs;exact⟨a,⟨_,k,y,rfl,b⟩,c⟩
     simp_all
    |cons _ _=>simp[AP.NZ]at e
  |_=>simp[AP.NZ]at e
 |_=>
  have:m=m':=by grind[AP.NZ]
  subst this;exact⟨Ext.refl _,trivial,fun h=>h⟩
theorem Vo{N:Nat}:∀{l:List AP} {xs:List AV} {m m':PK},Xi.NZ N m l xs=some m'→Ext m m'∧CT (RL N m') l xs∧(qU m→qU m')
 |[],[],m,m',e=>by simp only[Xi.NZ,AMF]at e;subst e;exact⟨Ext.refl _,trivial,fun h=>h⟩
 |p::l,x::xs,m,m',e=>by
  simp only[Xi.NZ,AMQ]at e;obtain⟨m1,e1,e2⟩:=e;obtain⟨a1,a2,a3⟩:=dF e1;obtain⟨b1,b2,b3⟩:=Vo e2;exact⟨a1.trans b1,⟨a2.ext b1,b2⟩,fun h=>b3 (a3 h)⟩
 |[],_::_,_,_,e=>by simp[Xi.NZ]at e
 |_::_,[],_,_,e=>by simp[Xi.NZ]at e
def gX(N:Nat)(m:PK):AP ⊕ List AP→AV ⊕ List AV→Prop
 | .inl p,.inl x=>RL N m p x
 | .inr p,.inr x=>CT (RL N m) p x
 |_,_=>False
theorem gX.ext{N:Nat}{m m':PK}(h:Ext m m'):∀{p:AP ⊕ List AP} {x:AV ⊕ List AV},gX N m p x→gX N m' p x
 | .inl _,.inl _,k=>RL.ext h k
 | .inr _,.inr _,k=>CT.imp (fun _ _ k=>RL.ext h k) k
theorem an{N:Nat}:∀{l:List (AP ⊕ List AP)} {xs:List (AV ⊕ List AV)} {m m':PK},Ya.NZ N m l xs=some m'→Ext m m'∧CT (gX N m') l xs∧(qU m→qU m')
 |[],[],m,m',e=>by simp only[Ya.NZ,AMF]at e;subst e;exact⟨Ext.refl _,trivial,fun h=>h⟩
 | .inl p::l,.inl x::xs,m,m',e=>by
  simp only[Ya.NZ,AMQ]at e;obtain⟨m1,e1,e2⟩:=e;obtain⟨a1,a2,a3⟩:=dF e1;obtain⟨b1,b2,b3⟩:=an e2;exact⟨a1.trans b1,⟨RL.ext b1 a2,b2⟩,fun h=>b3 (a3 h)⟩
 | .inr p::l,.inr x::xs,m,m',e=>by
  simp only[Ya.NZ,AMQ]at e;obtain⟨m1,e1,e2⟩:=e;obtain⟨a1,a2,a3⟩:=Vo e1;obtain⟨b1,b2,b3⟩:=an e2;exact⟨a1.trans b1,⟨CT.imp (fun _ _ k=>RL.ext b1 k) a2,b2⟩,fun h=>b3 (a3 h)⟩
 |[],_::_,_,_,e=>by simp[Ya.NZ]at e
 | .inl _::_,[],_,_,e=>by simp[Ya.NZ]at e
 | .inr _::_,[],_,_,e=>by simp[Ya.NZ]at e
 | .inl _::_,.inr _::_,_,_,e=>by simp[Ya.NZ]at e
 | .inr _::_,.inl _::_,_,_,e=>by simp[Ya.NZ]at e
def av(N:Nat)(m:PK):XP→XV→Prop
 | .c p,.c x=>RL N m p x
 | .agg l,.agg xs=>CT (RL N m) l xs
 | .row _,.agg _=>True
 | .MH l,.MH xs=>CT (gX N m) l xs
 |_,_=>False
theorem av.ext{N:Nat}{m m':PK}(h:Ext m m'):∀{p:XP} {x:XV},av N m p x→av N m' p x
 | .c _,.c _,k=>RL.ext h k
 | .agg _,.agg _,k=>CT.imp (fun _ _ k=>RL.ext h k) k
 | .row _,.agg _,_=>trivial
 | .MH _,.MH _,k=>CT.imp (fun _ _ k=>gX.ext h k) k
theorem wQ{N:Nat}{m m':PK}:∀{p:XP} {x:XV},p.NZ N m x=some m'→Ext m m'∧av N m' p x∧(qU m→qU m')
 | .c p,.c x,e=>dF (by grind[XP.NZ])
 | .agg l,.agg xs,e=>Vo (by grind[XP.NZ])
 | .row r,.agg xs,e=>by simp only[XP.NZ,AMF]at e;subst e;exact⟨Ext.refl _,trivial,fun h=>h⟩
 | .MH l,.MH xs,e=>an (by grind[XP.NZ])
 | .c _,.agg _,e=>by simp[XP.NZ]at e
 | .c _,.MH _,e=>by simp[XP.NZ]at e
 | .agg _,.c _,e=>by simp[XP.NZ]at e
 | .agg _,.MH _,e=>by simp[XP.NZ]at e
 | .row _,.c _,e=>by simp[XP.NZ]at e
 | .row _,.MH _,e=>by simp[XP.NZ]at e
 | .MH _,.c _,e=>by simp[XP.NZ]at e
 | .MH _,.agg _,e=>by simp[XP.NZ]at e
theorem dK{N:Nat}{tm:List XV}:∀{l:List (Nat×XP)} {m m':PK},Gt.NZ N tm m l=some m'→
  Ext m m'∧(∀q∈l,∃x,tm[q.1]? =some x∧av N m' q.2 x)∧(qU m→qU m')
 |[],m,m',e=>by grind[Gt.NZ,Option.some.injEq,Ext.refl]
 |(i,p)::l,m,m',e=>by
  simp only[Gt.NZ]at e;split at e
  ·rename_i x hx
   simp only[AMQ]at e;obtain⟨m1,e1,e2⟩:=e;obtain⟨a1,a2,a3⟩:=wQ e1;obtain⟨b1,b2,b3⟩:=dK e2;refine⟨a1.trans b1,?_,fun h=>b3 (a3 h)⟩;intro q hq;rcases ANv.1 hq with rfl|hq
   all_goals grind[av.ext]
  simp_all
theorem Vy{N:Nat}{bx:List Bx}:∀{l:List BP} {i:Nat} {m m':PK},Jb.NZ N bx i m l=some m'→
  Ext m m'∧(∀(k:Nat) q,l[k]? =some (.mem q)→ ∃b cs,m'[i+k]? =some (some b)∧bx[b]? =some (.mem cs)∧CT (RL N m') q cs)∧
   (∀(k:Nat) d r,l[k]? =some (.sl d r)→ ∃b,m'[i+k]? =some (some b))∧(qU m→qU m')
 |[],i,m,m',e=>by grind[Jb.NZ,Option.some.injEq,Ext.refl]
 | .mem q::l,i,m,m',e=>by
  simp only[Jb.NZ]at e;split at e
  ·rename_i b hb
   split at e
   ·rename_i cs wi
    simp only[AMQ]at e;obtain⟨m1,e1,e2⟩:=e;obtain⟨a1,a2,a3⟩:=Vo e1;obtain⟨b1,b2,b4,b3⟩:=Vy e2;refine⟨a1.trans b1,?_,?_,fun h=>b3 (a3 h)⟩
    ·intro k q' hk
     cases k with
     |zero=>cases hk;exact⟨b,cs,b1.2 _ _ (a1.2 _ _ hb),wi,CT.imp (fun _ _ k=>RL.ext b1 k) a2⟩
     |succ k=>
      grind
    grind
   simp_all
  simp_all
 | .sl d r::l,i,m,m',e=>by
  simp only[Jb.NZ]at e;split at e
  ·rename_i b hb
   obtain⟨b1,b2,b4,b3⟩:=Vy e;refine⟨b1,?_,?_,b3⟩
   ·grind
   ·intro k d r hk
    cases k with
    |zero=>exact⟨b,b1.2 _ _ hb⟩
    |succ k=>
     grind
  simp_all
 | .gone::l,i,m,m',e=>by
  simp only[Jb.NZ]at e;obtain⟨b1,b2,b4,b3⟩:=Vy e;grind
theorem RW{bx bk:List Bx}{JD:Nat→Nat}:∀{l:List BP} {m:PK} {x:Jb.V l},Jb.get bx bk m l=some x→(Jb.mk JD l x).length=l.length∧
  ∀(k:Nat) p,l[k]? =some p→ ∃y:p.V,(Jb.mk JD l x)[k]? =some (p.mk JD y)∧
   match p,y with
   | .mem q,y=> ∃b cs,m[k]? =some (some b)∧bx[b]? =some (.mem cs)∧Xi.get bk q cs=some y
   | .sl d r,y=> ∃b d',m[k]? =some (some b)∧bx[b]? =some (.sl d' r y)∧1≤d∧d≤d'
   | .gone,_=>True
 |[],m,x,e=>⟨rfl,by simp⟩
 | .mem q::l,some b::m,x,e=>by
  simp only[Jb.get]at e;split at e
  ·rename_i cs wi
   simp only[AMQ,AMI]at e;obtain⟨a,e1,c,e2,rfl⟩:=e;obtain⟨h1,h2⟩:=RW (JD:=JD) e2;refine⟨by simp[Jb.mk,h1],fun k p hk=> ?_⟩;cases k with
   |zero=>cases hk;exact⟨a,rfl,b,cs,rfl,wi,e1⟩
   |succ k=>
    grind[Jb.mk]
  simp_all
 | .sl d r::l,some b::m,x,e=>by
  simp only[Jb.get]at e;split at e
  ·rename_i d' q rows hb
   split at e
   ·rename_i hd
    simp only[AMQ,AMI]at e;obtain⟨a,e1,c,e2,rfl⟩:=e;obtain⟨e3,e4⟩:=Hz e1;subst e3;subst e4;obtain⟨h1,h2⟩:=RW (JD:=JD) e2;refine⟨by simp[Jb.mk,h1],fun k p hk=> ?_⟩;cases k with
    |zero=>cases hk;exact⟨rows,rfl,b,d',rfl,hb,hd.1,hd.2⟩
    |succ k=>
     grind[Jb.mk]
   simp_all
  simp_all
 | .gone::l,o::m,x,e=>by
  have e':(Jb.get bx bk m l).map (fun c=>((),c))=some x:=by grind[Jb.get]
  simp only[AMI]at e';obtain⟨c,e2,rfl⟩:=e';obtain⟨h1,h2⟩:=RW (JD:=JD) e2;refine⟨by simp[Jb.mk,h1],fun k p hk=> ?_⟩;cases k with
  |zero=>cases hk;exact⟨(),rfl,trivial⟩
  |succ k=>
   grind[Jb.mk]
 | .mem q::l,none::m,x,e=>by simp[Jb.get]at e
 | .sl d r::l,none::m,x,e=>by simp[Jb.get]at e
 | .mem _::_,[],x,e=>by simp[Jb.get]at e
 | .sl _ _::_,[],x,e=>by simp[Jb.get]at e
 | .gone::_,[],x,e=>by simp[Jb.get]at e
theorem KO:∀{m:PK} {bx:List Bx},(Ct bx m).length=bx.length
 |[],_=>rfl
 |some b::m,bx=>by simp[Ct,KO]
 |none::m,bx=>by simp[Ct,KO]
theorem SM:∀{m:PK} {bx vw:List Bx},FH bx vw→FH (Ct bx m) vw
 |[],_,_,h=>h
 |none::m,bx,vw,h=>by simp only[Ct];exact SM h
 |some b::m,bx,vw,h=>by
  simp only[Ct];refine SM fun k B hk=> ?_
  by_cases e:k=b
  ·grind
  ·rw[AS4 (by omega)]at hk
   exact h k B hk
theorem V2:∀{m:PK} {bx:List Bx} {b:Nat} {B:Bx},some b∈m→(Ct bx m)[b]? =some B→B= .dead
 |some c::m,bx,b,B,h,e=>by
  simp only[Ct]at e;by_cases hm:some b∈m
  ·exact V2 hm e
  ·have:c=b:=by
    simp_all
   subst this;have:∀{m:PK} {bx:List Bx},bx[c]? =some .dead→some c∉m→(Ct bx m)[c]? =some .dead:=by
    intro m
    induction m with
    |nil=>intro bx h _;exact h
    |cons o m ih=>
     intro bx h hn;cases o with
     |none=>grind[Ct,List.mem_cons_of_mem]
     |some d=>
      grind[Ct,List.mem_cons_of_mem,List.getElem?_set_ne]
   grind[List.getElem?_eq_some_iff,KO]
 |none::m,bx,b,B,h,e=>by
  simp only[Ct]at e;exact V2 (by simp_all) e
theorem nc{E:Env}{w:World}{vw:List Bx}:∀{m:PK} {bx:List Bx} {G:AA4},qU m→C9 E w vw bx G→
  ∃Gs:List AA4,Gs.length=m.length∧(∀(k b:Nat) B F,m[k]? =some (some b)→bx[b]? =some B→Gs[k]? =some F→n0 E w vw b B F)∧
   C9 E w vw (Ct bx m) (Gs.flatten++G)
 |[],bx,G,_,h=>⟨[],rfl,by simp,h⟩
 |none::m,bx,G,hi,h=>by
  obtain⟨Gs,h1,h2,h3⟩:=nc (m:=m) (fun i j b Dd hj=>by
   have:=hi (i+1) (j+1) b (by simp_all) (by simp_all);omega) h
  refine⟨[]::Gs,by simp[h1],fun k b B F hk hB hF=> ?_,by grind[Ct]⟩;grind
 |some b::m,bx,G,hi,h=>by
  have ALB:qU m:=fun i j b Dd hj=>by
   have:=hi (i+1) (j+1) b (by simp_all) (by simp_all);omega
  cases e:bx[b]? with
  |none=>
   have WT:bx.set b .dead=bx:=List.set_eq_of_length_le (by simp_all);obtain⟨Gs,h1,h2,h3⟩:=nc (m:=m) ALB h;refine⟨[]::Gs,by simp[h1],fun k b' B F hk hB hF=> ?_,by grind[Ct]⟩;grind
  |some B0=>
   obtain⟨F0,k1,k2⟩:=h.take e;obtain⟨Gs,h1,h2,h3⟩:=nc (m:=m) ALB k2;refine⟨F0::Gs,by simp[h1],fun k b' B F hk hB hF=> ?_,?_⟩
   ·cases k with
    |zero=>
     simp_all
    |succ k=>
     have cF:b'≠b:=fun hh=>by
      have:=hi 0 (k+1) b (by simp) (by simp_all);omega
     grind
   ·simp only[Ct]
    refine h3.perm ?_
    grind
end Go.Fw
end
section
namespace Go.Fw
theorem qQ{R:Nat→List Nat→List Nat→List Nat→Prop}:∀(Gs:List AA4) (o:Nat),(∀(k:Nat) G,Gs[k]? =some G→ ∃F W,G.Perm (F++W)∧R (o+k) G F W)→
  ∃Fs Ws:List AA4,Fs.length=Gs.length∧Ws.length=Gs.length∧Gs.flatten.Perm (Fs.flatten++Ws.flatten)∧
   ∀(k:Nat) G F W,Gs[k]? =some G→Fs[k]? =some F→Ws[k]? =some W→R (o+k) G F W
 |[],o,_=>⟨[],[],rfl,rfl,by simp,by simp⟩
 |G::Gs,o,h=>by
  obtain⟨F,W,hp,hr⟩:=h 0 G rfl;obtain⟨Fs,Ws,h1,h2,h3,h4⟩:=qQ Gs (o+1) (fun k G hk=>by
   have:=h (k+1) G (by simp_all)
   rwa [show o+1+k=o+(k+1)by omega])
  refine⟨F::Fs,W::Ws,by simp[h1],by simp[h2],?_,fun k G' F' W' hG hF hW=> ?_⟩
  all_goals grind
def OW(E:Env)(w:World)(vw:List Bx)(JD:Nat→Nat):(l:List (Nat×XP))→Gt.V l→List Value→Prop
 |[],_,_=>True
 |(i,p)::l,x,vals=>(∃v,vals[i]? =some v∧XR E w vw (p.mk JD x.1) v)∧OW E w vw JD l x.2 vals
section
variable{E E1:Env} {w:World} {bx bk xu:List Bx} {Fk:List AA4} {m:PK}
theorem SA.map{f:Nat→Nat}(h:∀(i b:Nat),m[i]? =some (some b)→E1.Hk i=E.Hk b):∀{is bs:AA4},SA m is bs→
  (is.map fun b=>Value.pointer (some ⟨E1.Hk b,0,none⟩))=bs.map fun b=>Value.pointer (some ⟨E.Hk b,0,none⟩)
 |[],[],_=>rfl
 |i::is,b::bs,k=>by simp[h i b k.1,SA.map (f:=f) h k.2]
theorem SA.lt:∀{is bs:AA4},SA m is bs→ ∀i∈is,i<m.length
 |[],[],_,_,h=>by simp at h
 |i::is,b::bs,k,j,h=>by
  rcases ANv.1 h with rfl|h
  ·exact(AMK.1 k.1).1
  ·exact SA.lt k.2 j h
structure AFh (N:Nat) (E:Env) (w:World) (bx bk:List Bx) (Fk:List AA4) (m:PK) (E1:Env) (xu:List Bx):Prop where
 within:FH bk bx
 boxes:NB E w bx bk Fk
 st:∀c,E.S c→E.T c
 T:∀c,og E Fk c→E1.T c
 S:∀c,E.S c→E1.S c
 ids:∀(i b:Nat),m[i]? =some (some b)→E1.Hk i=E.Hk b∧E1.Hl i=E.Hl b
 len:m.length≤xu.length
 nil:∀(i:Nat) d r rows,xu[i]? =some (.sl d r rows)→E.Hl (N+i)= .slice none 0 0
 sl:∀(i:Nat) d r rows,i<m.length→xu[i]? =some (.sl d r rows)→ ∃b d',m[i]? =some (some b)∧bx[b]? =some (.sl d' r rows)
variable{N:Nat} (k:AFh N E w bx bk Fk m E1 xu)
include k
theorem yN{p:AP}{x:AV}{v:Value}(hv:VR E w bx x v)(ha:RL N m p x){y:p.V}(e:p.get bk x=some y):VR E1 w xu (p.mk id y) v:=by
 cases p with
 |v t=>
  simp only[AP.get]at e;split at e
  ·rename_i hs
   have hr:=UM k.within k.boxes k.st hv e;refine⟨hs,?_⟩;cases t with
   |int _=>grind[Rd]
   |bool=>grind[Rd]
   |str=>grind[Rd]
   |_=>simp[Ty.scalar]at hs
  simp_all
 |sl s r=>
  cases s with
  |false=>
   simp only[AP.get]at e;have hr:=UM k.within k.boxes k.st hv e;simp only[AP.mk,VR];exact Fj k.T (fun _ _=>rfl) (by omega)
  |true=>
   simp only[AP.get]at e;split at e
   ·rename_i q z
    obtain⟨e1,e2⟩:=Hz e;subst e1;subst e2;simp only[AP.mk,VR]at hv⊢;exact Fj k.S (fun _ _=>rfl) (by simp_all)
   ·cases e
    simp only[AP.mk,VR]at hv⊢;subst hv;simp only[Rd];simp_all
   simp_all
 |nil=>
  obtain rfl:=ha;exact hv
 |ref i=>
  obtain⟨b,hx,hm⟩:=ha;have hi:=(AMK.1 hm).1;simp only[AP.mk,id,VR];rcases hx with rfl|⟨rfl,rfl⟩
  ·have hsl:=hv.1
   refine⟨hsl,?_⟩;cases e1:xu[i]? with
   |none=>simp at e1;have:=k.len;omega
   |some B=>
    cases B with
    |sl d r rows=>
     obtain⟨b',d',h1,h2⟩:=k.sl i d r rows hi e1;rw[hm]at h1;cases h1;simp only[VR,h2]at hv
     replace hv:=hv.2
     refine⟨by simp[DA],⟨_,rfl⟩,?_⟩;rw[(k.ids i b hm).2];simp_all
    |_=>trivial
  ·have X5:v= .slice none 0 0:=hv
   subst X5;refine⟨rfl,?_⟩;cases e1:xu[i]? with
   |none=>simp at e1;have:=k.len;omega
   |some B=>
    cases B with
    |sl d r rows=>
     refine⟨by simp[DA],⟨_,rfl⟩,?_⟩;rw[(k.ids i _ hm).2,k.nil i d r rows e1,C8]
    |_=>trivial
 |ptr i j=>
  obtain⟨b,rfl,hm⟩:=ha;have hi:=(AMK.1 hm).1;exact⟨ATB hi k.len,by rw[hv.2,id,(k.ids i b hm).1]⟩
 |my r=>
  simp only[AP.get]at e;split at e
  ·rename_i s q z
   obtain⟨e1,e2⟩:=Hz e;subst e1;subst e2;simp only[AP.mk,VR]at hv⊢;obtain⟨bb,o,cs,h1,h2,h3,h4,h5⟩:=hv;have ACR:∀c,(if s=true then E.S else E.T) c→E1.T c:=by
    intro c hc;cases s
    ·exact k.T c (.inl (by simp_all))
    ·exact k.T c (.inl (k.st c (by simp_all)))
   exact⟨bb,o,cs,h1,by simp_all,h3,h4,by simpa using Fj ACR (fun _ _=>rfl) h5⟩
  ·rename_i b
   split at e
   ·rename_i cs hb
    obtain⟨F,⟨hF,arr,ty,fr,ha,hu,VC⟩,PY⟩:=k.boxes.get hb;have Xn:=gY k.within k.boxes k.st VC e;simp only[AP.mk,VR];refine⟨E.Hk b,0,arr.toList,by simpa using hv.2,?_,lQ Xn,?_,by simpa using Fj k.T (fun _ _=>rfl) Xn⟩
    ·simp only[AMO,AOR]
     exact k.T _ (.inr (PY _ (by simp_all)))
    ·intro j u hj
     simp only[ATU,World.cell?,ha,ATN,AMO,AOR];simp_all
   simp_all
  ·rename_i b p i sz
   split at e
   ·rename_i d q rows hb
    simp only[AMQ]at e;obtain⟨⟨q',ys⟩,e1,e2⟩:=e;split at e2
    case isFalse=>cases e2
    rename_i PC;obtain⟨e3,e4⟩:=Hz e2;dsimp only at e3;subst e3;subst e4;simp only[VR,Yx k.within hb]at hv;obtain⟨_,hp,q1,ys1,bb,o,len,cap,hg,hi,hh,rfl⟩:=hv;rw[hg]at e1;simp only[AMF,AM9]at e1;obtain⟨e5,e6⟩:=e1;subst e5;obtain rfl:=ARx e6;have Xn:=dR k.within k.boxes k.st hb hp hg hh;simp only[Rd]at Xn;obtain⟨a',cap',ee,_,Xn⟩:=Xn;simp only[AQj,Value.slice.injEq,ATG]at ee;obtain⟨rfl,rfl,rfl⟩:=ee;rcases Xn with Xn|⟨b1,o1,e7,hb1,Xn⟩
    ·omega
    ·cases e7
     obtain⟨cs,c1,c2,c3⟩:=Xn i _ (Qc hi);simp only[AP.mk,VR];refine⟨bb,o+i*q1.n,cs,by rw[PC],by simpa using k.T _ hb1,c1,c2,by simpa using Fj k.T (fun _ _=>rfl) c3⟩
   simp_all
  simp_all
 |fn f J8=>
  obtain⟨bs,rfl,hc⟩:=ha;refine⟨fun i hi=>ATB (hc.lt i (by simp_all)) k.len,?_⟩;rw[hv.2];simp only[AP.mk,List.map_id];rw[SA.map (f:=id) (fun i b h=>(k.ids i b h).1) hc]
 |qt f rs=>
  simp only[AP.get]at e;split at e
  ·rename_i g rows
   split at e
   case isFalse=>cases e
   rename_i hfg;subst hfg;obtain⟨ps,bd,Zv⟩:=hv;refine⟨ps,bd,?_⟩;clear ha bd
   induction rs generalizing rows ps with
   |nil=>
    cases rows with
    |nil=>
     cases ps with
     |nil=>trivial
     |cons _ _=>exact Zv.elim
    |cons _ _=>simp[ZB.nw]at e
   |cons r rs ih=>
    cases rows with
    |nil=>simp[ZB.nw]at e
    |cons q rows=>
     cases ps with
     |nil=>exact Zv.elim
     |cons p ps=>
      simp only[ZB.nw,AMQ,AMI]at e;obtain⟨x1,e1,x2,e2,rfl⟩:=e;obtain⟨q1,q2⟩:=q;obtain⟨e3,e4⟩:=Hz e1;dsimp only at e3;subst e3;subst e4;obtain⟨⟨bb,o,cs,h1,h2,h3,h4,h5⟩,Zv⟩:=Zv;exact⟨⟨bb,o,cs,h1,k.T bb (.inl h2),h3,h4,Fj (fun b hb=>k.T b (.inl hb)) (fun _ _=>rfl) h5⟩,ih rows e2 ps Zv⟩
  ·rename_i g bs
   split at e
   case isFalse=>cases e
   rename_i hfg;subst hfg;obtain⟨bd,Zv⟩:=hv;refine⟨bs.map fun b=>Value.pointer (some ⟨E.Hk b,0,none⟩),Zv,?_⟩;clear ha bd Zv
   induction rs generalizing bs with
   |nil=>
    cases bs with
    |nil=>trivial
    |cons _ _=>simp[ZB.om]at e
   |cons r rs ih=>
    cases bs with
    |nil=>simp[ZB.om]at e
    |cons b bs=>
     simp only[ZB.om,AMQ,AMI]at e;obtain⟨x1,e1,x2,e2,rfl⟩:=e;split at e1
     case h_2=>cases e1
     rename_i cs hb;obtain⟨F,⟨hF,arr,ty,fr,ha,hu,VC⟩,PY⟩:=k.boxes.get hb;have Xn:=gY k.within k.boxes k.st VC e1;refine⟨⟨E.Hk b,0,arr.toList,rfl,k.T _ (.inr (PY _ (by simp_all))),lQ Xn,?_,Fj k.T (fun _ _=>rfl) Xn⟩,ih bs e2⟩;intro j u hj;simp only[ATU,World.cell?,ha,ATN,AMO,AOR];simp_all
  simp_all
 |any=>trivial
 |kY i sz=>
  obtain⟨b,q,j,rfl,hm⟩:=ha;have hi:=(AMK.1 hm).1;simp only[AP.get,AMF]at e;subst e;simp only[AP.mk,id,VR];have hsl:=hv.1;refine⟨hsl,?_⟩;cases e1:xu[i]? with
  |none=>simp at e1;have:=k.len;omega
  |some B=>
   cases B with
   |sl d r rows=>
    obtain⟨b',d',h1,h2⟩:=k.sl i d r rows hi e1;rw[hm]at h1;cases h1;simp only[VR,h2]at hv
    replace hv:=hv.2
    refine⟨hv.1,hv.2.1,?_⟩;rw[(k.ids i b hm).2];simp_all
   |_=>trivial
theorem nZ:∀{l:List AP} {xs:List AV} {vs:List Value},iz E w bx xs vs→CT (RL N m) l xs→ ∀{y:Xi.V l},Xi.get bk l xs=some y→iz E1 w xu (Xi.mk id l y) vs
 |[],[],[],_,_,_,_=>trivial
 |p::l,x::xs,v::vs,hv,ha,y,e=>by
  simp only[Xi.get,AMQ,AMI]at e;obtain⟨a,e1,b,e2,rfl⟩:=e;exact⟨yN k hv.1 ha.1 e1,nZ hv.2 ha.2 e2⟩
 |[],[],_::_,hv,_,_,_=>hv.elim
 |_::_,_::_,[],hv,_,_,_=>hv.elim
 |[],_::_,_,_,ha,_,_=>ha.elim
 |_::_,[],_,_,ha,_,_=>ha.elim
theorem te:∀{l:List (AP ⊕ List AP)} {xs:List (AV ⊕ List AV)} {vs:List Value},CT (TR E w bx) xs vs→CT (gX N m) l xs→ ∀{y:Ya.V l},Ya.get bk l xs=some y→
  CT (TR E1 w xu) (Ya.mk id l y) vs
 |[],[],[],_,_,_,_=>trivial
 | .inl p::l,.inl x::xs,v::vs,hv,ha,y,e=>by
  simp only[Ya.get,AMQ,AMI]at e;obtain⟨a,e1,b,e2,rfl⟩:=e;exact⟨yN k hv.1 ha.1 e1,te hv.2 ha.2 e2⟩
 | .inr p::l,.inr x::xs,v::vs,hv,ha,y,e=>by
  simp only[Ya.get,AMQ,AMI]at e;obtain⟨a,e1,b,e2,rfl⟩:=e;obtain⟨⟨us,hu,hus⟩,h2⟩:=hv;exact⟨⟨us,hu,nZ k hus ha.1 e1⟩,te h2 ha.2 e2⟩
 | .inl _::_,.inr _::_,_,_,ha,_,_=>ha.1.elim
 | .inr _::_,.inl _::_,_,_,ha,_,_=>ha.1.elim
 |[],[],_::_,hv,_,_,_=>hv.elim
 |_::_,_::_,[],hv,_,_,_=>hv.elim
 |[],_::_,_,_,ha,_,_=>ha.elim
 |_::_,[],_,_,ha,_,_=>ha.elim
theorem AQg{p:XP}{x:XV}{v:Value}(hv:XR E w bx x v)(ha:av N m p x){y:p.V}(e:p.get bk x=some y):XR E1 w xu (p.mk id y) v:=by
 cases p with
 |c p=>cases x with
  |c x=>exact yN k hv ha (by grind[XP.get])
  |_=>exact ha.elim
 |agg l=>cases x with
  |agg xs=>
   obtain⟨vs,rfl,VC⟩:=hv;exact⟨vs,rfl,nZ k VC ha (by grind[XP.get])⟩
  |_=>exact ha.elim
 |row r=>cases x with
  |agg xs=>
   obtain⟨vs,rfl,VC⟩:=hv;exact⟨vs,rfl,iK k.within k.boxes k.st k.T VC (by grind[XP.get])⟩
  |_=>exact ha.elim
 |MH l=>cases x with
  |MH xs=>
   obtain⟨vs,rfl,VC⟩:=hv;exact⟨vs,rfl,te k VC ha (by grind[XP.get])⟩
  |_=>exact ha.elim
theorem s8{tm:List XV}{vals:List Value}(htm:CT (XR E w bx) tm vals):∀{l:List (Nat×XP)},(∀q∈l,∃x,tm[q.1]? =some x∧av N m q.2 x)→ ∀{y:Gt.V l},Gt.get bk tm l=some y→
  OW E1 w xu id l y vals
 |[],_,_,_=>trivial
 |(i,p)::l,ha,y,e=>by
  obtain⟨x,hx,hax⟩:=ha (i,p) (by simp);simp only[Gt.get,hx,AMQ,AMI]at e;obtain⟨a,e1,b,e2,rfl⟩:=e;obtain⟨v,hv,hr⟩:=htm.get hx;exact⟨⟨v,hv,AQg k hr hax e1⟩,s8 htm (fun q hq=>ha q (by simp[hq])) e2⟩
end
structure uX (E:Env) (w:World) (bx:List Bx) (m:PK) (s:Ba) (x:s.V) (vals:List Value) (E1:Env):Prop where
 boxes:C9 E1 w (Jb.mk id s.Gr x.2) (Jb.mk id s.Gr x.2) []
 Dy:OW E1 w (Jb.mk id s.Gr x.2) id s.Dy x.1 vals
 ids:∀(i b:Nat),m[i]? =some (some b)→E1.Hk i=E.Hk b∧E1.Hl i=E.Hl b
 inj:qU m
 len:m.length=s.Gr.length
 S:∀c,E.S c→E1.S c
 Sof:∀c,E1.S c→E.S c∨ ¬E.T c
 T:∀c,E.T c→E1.T c
 rest:∃Fk,NB E w bx (Ct bx m) Fk∧Fk.flatten.Nodup∧(∀c∈Fk.flatten,¬E.T c∧ ¬E1.S c∧c<w.heap.size∧E1.T c)∧(∀c,E1.T c→E.T c∨E1.S c∨c∈Fk.flatten)
theorem kH{E:Env}{w:World}{bx:List Bx}{tm:List XV}{vals:List Value}(hB:C9 E w bx bx [])(htm:CT (XR E w bx) tm vals){s:Ba}{m0 m:PK}{x:s.V}
  {N:Nat} (uP:∀(i:Nat) d r,s.Gr[i]? =some (.sl d r)→E.Hl (N+i)= .slice none 0 0) (hlen:m0.length=s.Gr.length) (ALB:qU m0) (e:s.fit N m0 tm bx=some (x,m)):Ext m0 m∧ ∃E1,uX E w bx m s x vals E1:=by
 simp only[Ba.fit,AMQ,AMI]at e;obtain⟨m1,e1,m2,e2,a,e3,c,e4,e5⟩:=e;cases e5;obtain⟨a1,a2,a3⟩:=dK e1;obtain⟨b1,b2,b4,b3⟩:=Vy e2;have hi:qU m:=b3 (a3 ALB);have vT:m.length=s.Gr.length:=by rw[b1.1,a1.1,hlen]
 refine⟨a1.trans b1,?_⟩;obtain⟨Gs,g1,g2,g3⟩:=nc hi hB;obtain⟨q1,q2⟩:=RW (JD:=id) e4;have st:=hB.st
 let R:Nat→List Nat→List Nat→List Nat→Prop:=fun k G F W=>
  match s.Gr[k]? with
  |some (.sl d r)=> ∀(b d':Nat) (rows:List r.D),m[k]? =some (some b)→bx[b]? =some (.sl d' r rows)→Ow w (fun c=>E.S c∨c∈W) d (.sl r) [E.Hl b] rows F
  |some (.mem q)=>F=G∧W=[]
  |_=>F=[]∧W=G
 have ARZ:∀(k:Nat) G,Gs[k]? =some G→ ∃F W,G.Perm (F++W)∧R (0+k) G F W:=by
  intro k G hG;rw[ATU];have hk:k<s.Gr.length:=by
   grind
  have hp:s.Gr[k]? =some s.Gr[k]:=AL5 hk;cases hb:s.Gr[k]with
  |mem q=>exact⟨G,[],by simp,by grind⟩
  |gone=>exact⟨[],G,by simp,by grind⟩
  |sl d r=>
   obtain⟨y,y1,b,d',y2,y3,y4,y5⟩:=q2 k _ (hp.trans (by rw[hb]));obtain⟨_,ho⟩:=g2 k b _ G y2 y3 hG;grind[Jm]
 obtain⟨Fs,Ws,f1,f2,f3,f4⟩:=qQ Gs 0 ARZ;obtain⟨Fk,k1,k2⟩:=g3;simp only[AM5]at k2;have Zp:Sep E w (Fk.flatten++(Fs.flatten++Ws.flatten)):=k2.perm (AWs _ f3)
 let E1:Env:={
   Hk:=fun i=>match m[i]? with|some (some b)=>E.Hk b|_=>0
   Hl:=fun i=>match m[i]? with|some (some b)=>E.Hl b|_=> .nilFunc
   S:=fun c=>E.S c∨c∈Ws.flatten
   T:=fun c=>E.T c∨c∈Ws.flatten∨c∈Fk.flatten }
 have ADn:∀(i b:Nat),m[i]? =some (some b)→E1.Hk i=E.Hk b∧E1.Hl i=E.Hl b:=fun i b h=>by grind
 have fe:AFh N E w bx (Ct bx m) Fk m E1 (Jb.mk id s.Gr c):={
  within:=SM (FH.refl bx)
  boxes:=k1
  st:=st
  T:=fun d hd=>hd.elim .inl fun h=> .inr (.inr h)
  S:=fun d hd=> .inl hd
  ids:=ADn
  len:=by omega
  nil:=fun i d r rows e=>by
   have hk:i<s.Gr.length:=by
    grind
   obtain⟨y,y1,_⟩:=q2 i _ (AL5 hk);have hp:=AL5 hk;rw[e]at y1
   generalize s.Gr[i]=P at y y1 hp
   cases P with
   |mem q=>cases y1
   |gone=>cases y1
   |sl d0 r0=>grind
  sl:=fun i d r rows hi e=>by
   have hk:i<s.Gr.length:=by omega
   obtain⟨y,y1,y2⟩:=q2 i _ (AL5 hk);rw[e]at y1
   generalize s.Gr[i]=P at y y1 y2
   cases P with
   |mem q=>cases y1
   |gone=>cases y1
   |sl d0 r0=>
    simp only[BP.mk,AMF,Bx.sl.injEq]at y1;grind }
 have nd:=Zp.nodup;have AE0:∀c∈Fs.flatten,¬E1.T c:=by
  intro d hd h;rcases h with h|h|h
  ·exact Zp.free d (by simp[hd]) h
  all_goals grind
 have ANj:OW E1 w (Jb.mk id s.Gr c) id s.Dy a vals:=s8 fe htm (fun q hq=>let⟨x,h1,h2⟩:=a2 q hq;⟨x,h1,av.ext b1 h2⟩) e3;refine⟨E1,uX.mk ?_ ANj ADn hi vT (fun d hd=> .inl hd) ?_ (fun d hd=> .inl hd) ⟨Fk,k1,(ANN.1 nd).1,fun d hd=>⟨Zp.free d (by simp[hd]),?_,Zp.lt d (by simp[hd]),.inr (.inr hd)⟩,?_⟩⟩
 ·refine⟨Fs,⟨by simp_all,fun k B F hk hF=> ?_⟩,?_⟩
  ·have hkl:k<s.Gr.length:=by
    grind
   have hp:s.Gr[k]? =some s.Gr[k]:=AL5 hkl;obtain⟨y,y1,y2⟩:=q2 k _ hp;rw[hk]at y1;cases y1;have hG:Gs[k]? =some (Gs[k]'(by omega)):=AL5 _;have hW:Ws[k]? =some (Ws[k]'(by omega)):=AL5 _;have hr:=f4 k _ F _ hG hF hW;rw[ATU]at hr;have AWt:∀d∈Ws[k]'(by omega),d∈Ws.flatten:=fun d hd=>ASw.2 ⟨_,ANi hW,hd⟩
   generalize Adt:s.Gr[k]=P at y y2 hp
   have AVj:=fun q=>b2 k q
   simp only[R,hp]at hr;cases P with
   |mem q=>
    obtain⟨b,cs,z1,z2,z3⟩:=y2;obtain⟨rfl,hW0⟩:=hr;obtain⟨hFe,arr,ty,fr,h1,h2,h3⟩:=g2 k b _ _ z1 z2 hG;obtain⟨b',dM,t1,t2,t3⟩:=AVj q hp;rw[ATU,z1]at t1;cases t1;rw[z2]at t2;cases t2;refine⟨by simp_all,arr,ty,fr,by simp_all,h2,nZ fe h3 t3 z3⟩
   |sl d r=>
    obtain⟨b,d',z1,z2,z3,z4⟩:=y2;have:=hr b d' y z1 z2;refine⟨z3,?_⟩;rw[(ADn k b z1).2];exact EX (fun d hd=>hd.elim .inl fun h=> .inr (AWt d h)) (fun _ _=>rfl) (fun _ _=>rfl) this
   |gone=>exact hr.1
  ·simp only[AM5]
   refine⟨(ANN.1 (ANN.1 nd).2.1).1,AE0,fun d hd=>Zp.lt d (by simp[hd]),fun d hd=>hd.elim (fun h=> .inl (st d h)) (fun h=> .inr (.inl h)),fun d hd=> ?_⟩;rcases hd with hd|hd|hd
   ·exact Zp.cS d hd
   ·exact Zp.lt d (by simp[hd])
   ·exact Zp.lt d (by simp[hd])
 ·intro d hd
  exact hd.elim .inl fun h=> .inr (Zp.free d (by simp[h]))
 ·intro h
  rcases h with h|h
  ·exact Zp.free d (by simp[hd]) (st d h)
  grind
 grind
end Go.Fw
end
section
namespace Go.Fw
def zv:Ty→Value
 | .int k=> .int k 0
 | .bool=> .bool false
 | .str=> .string ⟨#[]⟩
 |_=> .slice none 0 0
def En:Ty→List Value
 | .cons c r=>zv c::En r
 | .unit=>[]
 |t=>[zv t]
def Ty.cell:Ty→Bool
 | .unit| .cons _ _=>false
 |_=>true
def Ty.vF:Ty→Bool
 | .cons c r=>c.cell&&r.vF
 |_=>true
def eqZ:Value→Value→Bool
 | .int k n,.int k' n' =>decide (k=k')&&decide (n=n')
 | .bool a,.bool b=>decide (a=b)
 | .string a,.string b=>decide (a.data.toList=[])&&decide (b.data.toList=[])
 | .slice none a b,.slice none c d=>decide (a=c)&&decide (b=d)
 |_,_=>false
theorem APk{a b:Value}(h:eqZ a b=true):a=b:=by
 unfold eqZ at h;split at h
 ·simp_all
 ·simp_all
 ·rename_i a b
  simp at h;obtain⟨h1,h2⟩:=h;cases a;cases b;simp_all
 all_goals simp_all
def ABM:List Value→List Value→Bool
 |[],[]=>true
 |a::l,b::m=>eqZ a b&&ABM l m
 |_,_=>false
theorem AAf:∀{l m:List Value},ABM l m=true→l=m
 |[],[],_=>rfl
 |a::l,b::m,h=>by
  simp only[ABM,AML]at h;rw[APk h.1,AAf h.2]
 |[],_::_,h=>by simp[ABM]at h
 |_::_,[],h=>by simp[ABM]at h
def gZ(P:Program)(t:Nat):TD→Prop
 | .int k=>P.underlying t=some (.int k)
 | .bool=>P.underlying t=some .bool
 | .str=>P.underlying t=some .string
 | .sl e=>P.underlying t=some (.slice e)
 | .ptr e=>P.underlying t=some (.pointer e)
 | .st fs=> ∃fields,P.underlying t=some (.struct fields)∧fields.toList.map (fun f=>(f.offset,f.type))=fs∧(∀f∈fields.toList,f.name≠ "_" ∧ ∃i,P.info? f.type=some i∧i.size≠0)∧
  P.stoodInHeld t=false∧P.eqGuardType P.depth t=false
 | .other=> ∃d,P.underlying t=some d∧d.isRow=false
structure AV_ (P:Program) (T:JY) (t:Nat) (ti:TI):Prop where
 info:∃i,P.info? t=some i∧i.size=ti.size∧i.bytes=ti.bytes∧(∀r,ti.row=some r→r.vF=true∧ ∃z,i.zero=some z∧z.cells.toList=En r)
 und:gZ P t ti.desc
def Eo(P:Program)(T:JY):Prop:= ∀t ti,T.get t=some ti→AV_ P T t ti
def tZ(P:Program)(T:JY)(t:Nat)(ti:TI):Bool:=
 (match P.info? t with
  |some i=>decide (i.size=ti.size)&&decide (i.bytes=ti.bytes)&&(match ti.row with
   |some r=>r.vF&&(match i.zero with
    |some z=>ABM z.cells.toList (En r)
    |none=>false)
   |none=>true)
  |none=>false)&&
 (match ti.desc,P.underlying t with
  | .int k,some (.int k')=>decide (k=k')
  | .bool,some .bool=>true
  | .str,some .string=>true
  | .sl e,some (.slice e')=>decide (e=e')
  | .ptr e,some (.pointer e')=>decide (e=e')
  | .st fs,some (.struct fields)=>decide (fields.toList.map (fun f=>(f.offset,f.type))=fs)&&
    fields.toList.all (fun f=>decide (f.name≠ "_")&&(match P.info? f.type with|some i=>decide (i.size≠0)|none=>false))&&
    !P.stoodInHeld t&& !P.eqGuardType P.depth t
  | .other,some d=> !d.isRow
  |_,_=>false)
theorem vD{P:Program}{T:JY}{t:Nat}{ti:TI}(h:tZ P T t ti=true):AV_ P T t ti:=by
 unfold tZ at h;rw[AML]at h;obtain⟨h1,h2⟩:=h;constructor
 ·split at h1
  ·rename_i i hi
   simp only[AML,AMc]at h1;refine⟨i,hi,h1.1.1,h1.1.2,fun r hr=> ?_⟩;obtain⟨_,h3⟩:=h1;rw[hr]at h3;dsimp only at h3;rw[AML]at h3;grind[AAf]
  simp_all
 ·split at h2
  ·grind[gZ]
  ·grind[gZ]
  ·grind[gZ]
  ·grind[gZ]
  ·grind[gZ]
  ·rename_i fs fields hd hu
   simp only[hd,gZ];grind
  all_goals grind[gZ]
def ADZ(P:Program)(T:JY):Bool:=T.all fun q=>tZ P T q.1 q.2
theorem JY.get_mem:∀{T:JY} {t:Nat} {ti:TI},T.get t=some ti→(t,ti)∈T
 |(u,i)::l,t,ti,h=>by
  simp only[JY.get]at h;split at h
  ·rename_i e;cases h;subst e;simp
  ·exact AXV _ (JY.get_mem h)
 |[],_,_,h=>by simp[JY.get]at h
theorem qf{P:Program}{T:JY}(h:ADZ P T=true):Eo P T:=fun t ti e=>
 vD (by simpa using ATV.1 h (t,ti) (JY.get_mem e))
section
variable{P:Program} {T:JY} (hT:Eo P T)
include hT
theorem Eo.size{t:Nat}{ti:TI}(e:T.get t=some ti):(P.info? t).map (·.size)=some ti.size:=by
 obtain⟨i,h1,h2,_⟩:=(hT t ti e).info;simp_all
theorem Eo.sizeOf{t:Nat}{ti:TI}(e:T.get t=some ti)(w:World):(Go.sizeOf t).run P w= .ok ti.size w:=by
 obtain⟨i,h1,h2,_⟩:=(hT t ti e).info;simp[Go.sizeOf,typeInfo,h1,h2]
omit hT in
theorem BZ{t:Nat}{d:TypeDesc}(h:P.underlying t=some d)(w:World):(Go.underlying t).run P w= .ok d w:=by
 simp[Go.underlying,h]
theorem Eo.isAgg{t:Nat}{ti:TI}(e:T.get t=some ti)(w:World):(Go.isAgg t).run P w= .ok ti.desc.agg w:=by
 have hu:=(hT t ti e).und;unfold Go.isAgg;cases hd:ti.desc<;>rw[hd]at hu<;>simp only[gZ]at hu
 case st fs=>
  obtain⟨fields,hu,_⟩:=hu;simp[BZ hu,TD.agg]
 case other=>
  obtain⟨d,hu,hd⟩:=hu;rw[Sem.run_bind,BZ hu];cases d<;>simp_all[TypeDesc.isRow,TD.agg]
 all_goals simp[BZ hu,TD.agg]
end
end Go.Fw
end
section
namespace Go.Fw
def LZ{Y:Type}(P:Program)(o:Oper)(E:Env)(σ:St)(a:Act)(w:World)(k:K Y)(y:Y):Prop:=
 ∃v w' E' x σ',((execOp a.eval o).run P w= .ok (.value v) w'∨((execOp a.eval o).run P w= .ok .skip w'∧v=undef))∧Rel E' σ' a w'∧XR E' w' σ'.bx x v∧Q5 (KM (fun _=>none) σ o.op) E σ.bx w E' σ'.bx w'∧
  σ'.tm.length=σ.tm.length∧k x σ' =some y
section
variable{Y:Type} {P:Program} {T:JY} {o:Oper} {E:Env} {σ:St} {a:Act} {w:World} {k:K Y} {y:Y}
theorem LZ.same(h:Rel E σ a w){v:Value}{x:XV}(hr:(execOp a.eval o).run P w= .ok (.value v) w)(hx:XR E w σ.bx x v)(hk:k x σ=some y):LZ P o E σ a w k y:=
 ⟨v,w,E,x,σ,.inl hr,h,hx,Q5.refl _ E σ.bx w,rfl,hk⟩
theorem aU{vw:List Bx}{κ:IntKind}{n:Int}{v:Value}(h:VR E w vw (.v (.int κ) n) v):v= .int κ n:=by
 have:=h.2;grind[Rd]
theorem Rg{vw:List Bx}{b:Bool}{v:Value}(h:VR E w vw (.v .bool b) v):v= .bool b:=by
 have:=h.2;grind[Rd]
theorem XW{vw:List Bx}{s:ACC}{v:Value}(h:VR E w vw (.v .str s) v):v= .string ⟨s.toArray⟩:=by
 have:=h.2;grind[Rd]
theorem VR.int{vw:List Bx}(κ:IntKind)(n:Int):VR E w vw (.v (.int κ) n) (.int κ n):=⟨rfl,by rfl⟩
theorem VR.bool{vw:List Bx}(b:Bool):VR E w vw (.v .bool b) (.bool b):=⟨rfl,by rfl⟩
theorem VR.str{vw:List Bx}(s:ACC):VR E w vw (.v .str s) (.string ⟨s.toArray⟩):=⟨rfl,by rfl⟩
theorem Vp(s:ACC):ByteArray.toList ⟨s.toArray⟩=s:=by
 simp_all
theorem vN(a b:ACC):(⟨a.toArray⟩:ByteArray)++⟨b.toArray⟩=⟨(a++b).toArray⟩:=by
 rfl
theorem wc(op:BinOp)(t:TypeId)(x y:Operand)(u v:Value)(hu:∀l,u≠ .agg l)(hn:u≠ .nilIface)(w:World):(eqGuard op t x y u v).run P w= .ok () w:=by
 unfold eqGuard;simp_all
theorem wA{op:BinOp}{κ:IntKind}{m n:Int}{k:AV→Option Y}{y:Y}(e:fC op κ m n k=some y)(t:TypeId)(w:World):
  ∃z v,k z=some y∧(binOp op t (.int κ m) (.int κ n)).run P w= .ok v w∧ ∀E vw,VR E w vw z v:=by
 cases op with
 |add=>exact⟨_,.int κ (κ.wrap (m+n)),e,by simp[binOp,Op.intArith],fun _ _=>VR.int _ _⟩
 |sub=>exact⟨_,.int κ (κ.wrap (m-n)),e,by simp[binOp,Op.intArith],fun _ _=>VR.int _ _⟩
 |mul=>exact⟨_,.int κ (κ.wrap (m*n)),e,by simp[binOp,Op.intArith],fun _ _=>VR.int _ _⟩
 |and=>exact⟨_,.int κ (κ.wrap (BitVec.ofInt κ.bits m &&& BitVec.ofInt κ.bits n).toNat),e,by simp[binOp,Op.intBits],fun _ _=>VR.int _ _⟩
 |or=>exact⟨_,.int κ (κ.wrap (BitVec.ofInt κ.bits m ||| BitVec.ofInt κ.bits n).toNat),e,by simp[binOp,Op.intBits],fun _ _=>VR.int _ _⟩
 |xor=>exact⟨_,.int κ (κ.wrap (BitVec.ofInt κ.bits m ^^^ BitVec.ofInt κ.bits n).toNat),e,by simp[binOp,Op.intBits],fun _ _=>VR.int _ _⟩
 |andNot=>exact⟨_,.int κ (κ.wrap (BitVec.ofInt κ.bits m &&& ~~~BitVec.ofInt κ.bits n).toNat),e,by simp[binOp,Op.intBits],fun _ _=>VR.int _ _⟩
 |eql=>exact⟨_,.bool (m==n),e,by simp[binOp,Op.intCmp],fun _ _=>VR.bool _⟩
 |neq=>exact⟨_,.bool (m !=n),e,by simp[binOp,Op.intCmp],fun _ _=>VR.bool _⟩
 |lss=>exact⟨_,.bool (decide (m<n)),e,by simp[binOp,Op.intCmp],fun _ _=>VR.bool _⟩
 |leq=>exact⟨_,.bool (decide (m≤n)),e,by simp[binOp,Op.intCmp],fun _ _=>VR.bool _⟩
 |gtr=>exact⟨_,.bool (decide (m>n)),e,by simp[binOp,Op.intCmp],fun _ _=>VR.bool _⟩
 |geq=>exact⟨_,.bool (decide (m≥n)),e,by simp[binOp,Op.intCmp],fun _ _=>VR.bool _⟩
 |quo=>
  simp only[fC]at e;split at e
  ·cases e
  ·rename_i hz
   exact⟨_,.int κ (κ.wrap (m.tdiv n)),e,by simp[binOp,Op.intDiv,hz],fun _ _=>VR.int _ _⟩
 |rem=>
  simp only[fC]at e;split at e
  ·cases e
  ·rename_i hz
   exact⟨_,.int κ (m.tmod n),e,by simp[binOp,Op.intDiv,hz],fun _ _=>VR.int _ _⟩
 |_=>simp[fC]at e
theorem fK{op:BinOp}{κ κ':IntKind}{m n:Int}{k:AV→Option Y}{y:Y}(e:X4 op κ m n k=some y)(t:TypeId)(w:World):
  ∃z v,k z=some y∧(binOp op t (.int κ m) (.int κ' n)).run P w= .ok v w∧ ∀E vw,VR E w vw z v:=by
 unfold X4 at e;split at e
 ·cases e
 ·rename_i hn
  cases op with
  |shl=>exact⟨_,.int κ (κ.wrap (m*2^min n.toNat κ.bits)),e,by simp[binOp,Op.shift,hn],fun _ _=>VR.int _ _⟩
  |shr=>exact⟨_,.int κ (m.fdiv (2^min n.toNat κ.bits)),e,by simp[binOp,Op.shift,hn],fun _ _=>VR.int _ _⟩
  |_=>simp at e
theorem xK{op:BinOp}{s u:ACC}{k:AV→Option Y}{y:Y}(e:jI op s u k=some y)(t:TypeId)(w:World):
  ∃z v,k z=some y∧(binOp op t (.string ⟨s.toArray⟩) (.string ⟨u.toArray⟩)).run P w= .ok v w∧ ∀E vw,VR E w vw z v:=by
 have h1:=Vp s;have h2:=Vp u;cases op with
 |eql=>exact⟨_,.bool (s==u),e,by simp[binOp,Op.stringOp,h1,h2],fun _ _=>VR.bool _⟩
 |neq=>exact⟨_,.bool (!(s==u)),e,by simp[binOp,Op.stringOp,h1,h2],fun _ _=>VR.bool _⟩
 |lss=>exact⟨_,.bool (Op.bytesLess s u),e,by simp[binOp,Op.stringOp,h1,h2],fun _ _=>VR.bool _⟩
 |leq=>exact⟨_,.bool (Op.bytesLess s u||s==u),e,by simp[binOp,Op.stringOp,h1,h2],fun _ _=>VR.bool _⟩
 |gtr=>exact⟨_,.bool (!(Op.bytesLess s u||s==u)),e,by simp[binOp,Op.stringOp,h1,h2],fun _ _=>VR.bool _⟩
 |geq=>exact⟨_,.bool (!Op.bytesLess s u),e,by simp[binOp,Op.stringOp,h1,h2],fun _ _=>VR.bool _⟩
 |add=>
  simp only[jI]at e;split at e
  ·rename_i hl
   refine⟨_,.string ⟨(s++u).toArray⟩,e,?_,fun _ _=>VR.str _⟩;have hs:(⟨s.toArray⟩:ByteArray).size=s.length:=by rfl
   have hu:(⟨u.toArray⟩:ByteArray).size=u.length:=by rfl
   have Zk: ¬(((⟨s.toArray⟩:ByteArray).size+(⟨u.toArray⟩:ByteArray).size:Nat):Int)>IntKind.i64.max:=by
    grind[Dr,IntKind.max,IntKind.signed,IntKind.bits]
   simp only[binOp,Op.stringOp,Sem.run_ite,AMD Zk,vN];rfl
  simp_all
 |_=>simp[jI]at e
theorem uW{d:TD}{x z:AV}{p:Bool}(e:oV d x z=some p){E:Env}{w:World}{vw:List Bx}{v u:Value}(hx:VR E w vw x v)(hz:VR E w vw z u){t:TypeId}
  (hu:gZ P t d) (n:Nat):(Op.equalIn (n+1) t v u).run P w= .ok p w∧d.agg=false:=by
 unfold oV at e;split at e
 ·rename_i κ j a k b
  split at e
  ·rename_i hj
   subst hj;cases e;rw[aU hx,aU hz];exact⟨run_equalIn_int (P:=P) w n t j κ a b hu,rfl⟩
  simp_all
 ·cases e
  rw[Rg hx,Rg hz];exact⟨run_equalIn_bool' (P:=P) w n t _ _ hu,rfl⟩
 ·cases e
  rename_i a b;rw[XW hx,XW hz];have q:=run_equalIn_string (P:=P) w n t ⟨a.toArray⟩ ⟨b.toArray⟩ hu;rw[Vp,Vp]at q;exact⟨q,rfl⟩
 simp_all
theorem fM{T:JY}(hT:Eo P T){E:Env}{w:World}{vw:List Bx}{xs ys:Array Value}:∀{fields:List Field} {i:Nat} {l m:List AV} {vs us:List Value} {r:Bool},
  (∀f∈fields,f.name≠ "_")→iz E w vw l vs→iz E w vw m us→Kt T i (fields.map fun f=>(f.offset,f.type)) l m=some r→
  (∀(j:Nat) v,vs[j]? =some v→xs[i+j]? =some v)→(∀(j:Nat) v,us[j]? =some v→ys[i+j]? =some v)→(Op.eqFields 9999 xs ys fields).run P w= .ok r w
 |[],i,[],[],_,_,r,_,_,_,e,_,_=>by
  simp only[AXI,Kt,AMF]at e;subst e;rfl
 |f::fs,i,x::l,z::m,v::vs,u::us,r,hn,hx,hz,e,h1,h2=>by
  simp only[AVJ,Kt]at e;split at e
  case isFalse=>cases e
  rename_i ho;have hv:=h1 0 v rfl;have hu:=h2 0 u rfl;simp only[AUN]at hv hu;have AWK:=hn f (by simp);split at e
  case h_2=>cases e
  rename_i ti Um;split at e
  case h_2=>cases e
  rename_i p hp;simp only[AMI]at e;obtain⟨r',e',rfl⟩:=e;have Abc:=fM hT (fields:=fs) (i:=i+1) (l:=l) (m:=m) (vs:=vs) (us:=us) (r:=r') (fun f hf=>hn f (by simp[hf])) hx.2 hz.2 e'
   (fun j v' hj=>by have:=h1 (j+1) v' (by simp_all);rwa [show i+(j+1)=i+1+j by omega]at this)
   (fun j v' hj=>by have:=h2 (j+1) v' (by simp_all);rwa [show i+(j+1)=i+1+j by omega]at this)
  have iq:=(hT f.type ti Um).und;obtain⟨q,na⟩:=uW (P:=P) hp hx.1 hz.1 (t:=f.type) iq 9998;have je:=Eo.isAgg hT Um w;rw[na]at je;have p1:(part f.type xs f.offset).run P w= .ok v w:=by simp[part,je,ho,hv]
  have p2:(part f.type ys f.offset).run P w= .ok u w:=by simp[part,je,ho,hu]
  simp only[Op.eqFields,AWK,ne_eq,not_false_eq_true,AS_,Sem.run_bind,p1,p2,Result.andThen_ok,q,Abc,Sem.run_ite,Sem.run_pure];grind
 |[],_,_::_,_,_,_,_,_,_,_,e,_,_=>by simp[Kt]at e
 |[],_,[],_::_,_,_,_,_,_,_,e,_,_=>by simp[Kt]at e
 |_::_,_,[],_,_,_,_,_,_,_,e,_,_=>by simp[Kt]at e
 |_::_,_,x::_,[],_,_,_,_,_,_,e,_,_=>by simp[Kt]at e
 |_::_,_,_::_,_::_,[],_,_,_,hx,_,_,_,_=>hx.elim
 |_::_,_,_::_,_::_,_::_,[],_,_,_,hz,_,_,_=>hz.elim
theorem oq(op:BinOp)(t:TypeId)(p q:Bool)(hu:P.underlying t=some .bool)(w:World):(op= .eql→(binOp op t (.bool p) (.bool q)).run P w= .ok (.bool (p==q)) w)∧
  (op= .neq→(binOp op t (.bool p) (.bool q)).run P w= .ok (.bool (!(p==q))) w):=by
 have h:=run_equalIn_bool' (P:=P) w 9999 t p q hu;constructor
 ·rintro rfl
  grind[binOp,Op.equal,Op.maxDepth,Sem.run_bind,Result.andThen_ok,Sem.run_pure]
 ·rintro rfl
  grind[binOp,Op.equal,Op.maxDepth,Sem.run_bind,Result.andThen_ok,Sem.run_pure]
theorem fj{T:JY}(hT:Eo P T){t:Nat}{op:BinOp}{x z:XV}{k:AV→Option Y}{y:Y}(e:wt T t op x z k=some y){E:Env}{w:World}{vw:List Bx}{v u:Value}
  (hx:XR E w vw x v) (hz:XR E w vw z u) (ox oz:Operand):
  ∃r val,k r=some y∧(do eqGuard op t ox oz v u;binOp op t v u:Sem Value).run P w= .ok val w∧VR E w vw r val:=by
 have guard:∀(v u:Value),(∀l,v≠ .agg l)→v≠ .nilIface→ ∀val,(binOp op t v u).run P w= .ok val w→(do eqGuard op t ox oz v u;binOp op t v u:Sem Value).run P w= .ok val w:=by
  grind[Sem.run_bind,wc,Result.andThen_ok]
 unfold wt at e;split at e
 ·rename_i j m j' n
  have hv:=aU (E:=E) (vw:=vw) hx;have hu:=aU (E:=E) (vw:=vw) hz;subst hv hu;have done:∀(q:∃r val,k r=some y∧(binOp op t (.int j m) (.int j' n)).run P w= .ok val w∧ ∀E vw,VR E w vw r val),∃r val,k r=some y∧(do eqGuard op t ox oz (.int j m) (.int j' n);binOp op t (.int j m) (.int j' n):Sem Value).run P w= .ok val w∧VR E w vw r val:=by
   grind
  split at e
  ·exact done (fK e t w)
  ·exact done (fK e t w)
  ·split at e
   ·rename_i hj
    subst hj;exact done (wA e t w)
   simp_all
 ·rename_i s s'
  have hv:=XW (E:=E) (vw:=vw) hx;have hu:=XW (E:=E) (vw:=vw) hz;subst hv hu;obtain⟨r,val,h1,h2,h3⟩:=xK (P:=P) e t w;grind
 ·rename_i p q
  have hv:=Rg (E:=E) (vw:=vw) hx;have hu:=Rg (E:=E) (vw:=vw) hz;subst hv hu;split at e
  ·rename_i ti Um
   have iq:=(hT t ti Um).und;split at e
   ·rename_i hd
    rw[hd]at iq;split at e
    ·exact⟨_,_,e,guard _ _ (by simp) (by simp) _ ((oq _ t p q iq w).1 rfl),VR.bool _⟩
    ·exact⟨_,_,e,guard _ _ (by simp) (by simp) _ ((oq _ t p q iq w).2 rfl),VR.bool _⟩
    simp_all
   simp_all
  simp_all
 ·rename_i l m
  obtain⟨vs,rfl,VC⟩:=hx;obtain⟨us,rfl,hus⟩:=hz;have key:∀r,((T.fields t).bind fun fs=>Kt T 0 fs l m)=some r→(Op.equalIn 10000 t (.agg vs) (.agg us)).run P w= .ok r w∧P.eqGuardType P.depth t=false:=by
   intro r hr;simp only[AMQ]at hr;obtain⟨fs,hf,hr⟩:=hr;unfold JY.fields at hf;split at hf
   ·rename_i fs' hd
    cases hf;simp only[AMI]at hd;obtain⟨ti,Um,hd⟩:=hd;have iq:=(hT t ti Um).und;rw[hd]at iq;obtain⟨fields,hu,hfs,tP,fN,hg⟩:=iq;grind[Program.fieldsOf,run_equalIn_agg,fM]
   simp_all
  split at e
  ·rename_i r hr
   obtain⟨q,hg⟩:=key r hr;refine⟨_,_,e,?_,VR.bool r⟩;grind[Sem.run_bind,run_eqGuard_agg,Result.andThen_ok,run_eql_struct]
  ·rename_i r hr
   obtain⟨q,hg⟩:=key r hr;refine⟨_,_,e,?_,VR.bool (!r)⟩;grind[Sem.run_bind,run_eqGuard_agg,Result.andThen_ok,run_neq_struct]
  simp_all
 simp_all
end
end Go.Fw
end
section
namespace Go.Fw
section
variable{Y:Type} {P:Program} {T:JY} (hT:Eo P T) {E:Env} {w:World} {vw:List Bx}
include hT
theorem ALR{t:Nat}{s b:Nat}{fs:List AC7}{rw:Option Ty}(e:T.get t=some ⟨s,b,.st fs,rw⟩):∃fields,P.underlying t=some (.struct fields)∧fields.toList.map (fun f=>(f.offset,f.type))=fs∧
  ∀f∈fields.toList,∃i,P.info? f.type=some i∧i.size≠0:=by
 obtain⟨fields,h1,h2,h3,_⟩:=(hT t _ e).und;simp_all
omit hT in
theorem pJ{a:Addr}{f:Field}(h:∃i,P.info? f.type=some i∧i.size≠0):(fieldPlace a f).run P w= .ok (a.add f.offset) w:=by
 obtain⟨i,h1,h2⟩:=h;simp[fieldPlace,Go.sizeOf,typeInfo,h1,h2]
theorem Ua{t:Nat}{s b:Nat}{fs:List AC7}{rw:Option Ty}(e:T.get t=some ⟨s,b,.st fs,rw⟩){f o u:Nat}(hf:fs[f]? =some (o,u)){a:Addr}:
  (Instr.fieldAt t (.pointer (some a)) f).run P w= .ok (.pointer (some (a.add o))) w:=by
 obtain⟨fields,h1,h2,h3⟩:=ALR hT e;subst h2;simp only[ASJ,AMI]at hf;obtain⟨fld,xy,he⟩:=hf;have hm:=ANi xy;have hfa:fields[f]? =some fld:=by simp_all
 simp only[APv]at he;simp[Instr.fieldAt,BZ h1,hfa,Instr.sureAddr,pJ (h3 fld hm),he.1]
theorem i_{t:Nat}{x z:XV}{f:Nat}(e:u_ T t x f=some z){v:Value}(hx:XR E w vw x v):∃u,(Instr.fieldAt t v f).run P w= .ok u w∧XR E w vw z u:=by
 unfold u_ at e;split at e
 case h_2=>cases e
 rename_i s b fs _ Um;split at e
 case h_2=>cases e
 rename_i o u hf;split at e
 ·rename_i b' j
  cases e;obtain⟨h1,rfl⟩:=hx;exact⟨_,Ua hT Um hf,h1,by rw[Addr.add_eq]⟩
 ·rename_i b' p i sz j
  cases e;obtain⟨h0,h1⟩:=hx;cases v with
  |pointer oa=>
   cases oa with
   |none=>simp[cL]at h0
   |some a=>
    obtain⟨ab,ao,sp⟩:=a;cases sp with
    |some _=>simp[cL]at h0
    |none=>
     refine⟨_,Ua hT Um hf,by rw[Addr.add_eq];rfl,?_⟩;revert h1;split
     ·rintro⟨hp,q,ys,bb,o',len,cap,g1,g2,g3,g4⟩
      refine⟨hp,q,ys,bb,o',len,cap,g1,g2,g3,?_⟩;simp only[Value.pointer.injEq,AMF,Addr.mk.injEq,ATG]at g4;grind[Addr.add_eq,Nat.add_assoc]
     all_goals simp_all
  |_=>simp[cL]at h0
 ·rename_i s r y j
  cases e;obtain⟨bb,o',cs,rfl,h2,h3,h4,h5⟩:=hx;refine⟨_,Ua hT Um hf,bb,o',cs,?_,h2,h3,h4,h5⟩;rw[Addr.add_eq,AT8]
 simp_all
theorem lh{t:Nat}{x z:XV}{f:Nat}(e:AE2 T t x f=some z){v:Value}(hx:XR E w vw x v):∃u,(Instr.field t v f).run P w= .ok u w∧XR E w vw z u:=by
 unfold AE2 at e;split at e
 case h_2=>cases e
 rename_i s b fs _ l Um;obtain⟨vs,rfl,VC⟩:=hx;split at e
 case h_2=>cases e
 rename_i o u hf;split at e
 case h_2=>cases e
 rename_i ti htu;obtain⟨fields,h1,h2,h3⟩:=ALR hT Um;subst h2;simp only[ASJ,AMI]at hf;obtain⟨fld,xy,he⟩:=hf;have hfa:fields[f]? =some fld:=by simp_all
 simp only[APv]at he;obtain⟨rfl,rfl⟩:=he;have je:=Eo.isAgg hT htu w;have PC:=Eo.sizeOf hT htu w;split at e
 ·rename_i ha
  cases e;rw[ha]at je;refine⟨.agg (vs.extract fld.offset (fld.offset+ti.size)),?_,_,rfl,?_⟩
  ·simp[Instr.field,BZ h1,hfa,asAgg,part,je,PC]
  ·have:(vs.extract fld.offset (fld.offset+ti.size)).toList=(vs.toList.drop fld.offset).take ti.size:=by
    simp_all
   rw[this];exact CT.take _ (CT.drop _ VC)
 ·rename_i ha
  simp only[APC]at ha;rw[ha]at je;simp only[AMI]at e;obtain⟨y,hy,rfl⟩:=e;obtain⟨v,hv,hr⟩:=CT.get VC hy;refine⟨v,?_,hr⟩;have:vs[fld.offset]? =some v:=by simp_all
  simp[Instr.field,BZ h1,hfa,asAgg,part,je,this]
theorem J6{t:Nat}{r:Ty}(h:T.M6 t r=true):∃e ti,P.underlying t=some (.slice e)∧T.get e=some ti∧ti.size=r.n∧ti.bytes≤512∧ti.row=some r:=by
 unfold JY.M6 at h;split at h
 ·rename_i ti Um
  simp only[AML,AMc]at h;unfold JY.elem at Um;split at Um
  ·rename_i e hd
   simp only[AMI]at hd;obtain⟨tj,h1,h2⟩:=hd;have:=(hT t tj h1).und;rw[h2]at this;exact⟨e,ti,this,Um,h.1.1,h.1.2,h.2⟩
  simp_all
 simp_all
theorem XG{t:Nat}(h:T.isStr t=true):P.underlying t=some .string:=by
 unfold JY.isStr at h;split at h
 ·rename_i hd
  simp only[AMI]at hd;obtain⟨tj,h1,h2⟩:=hd;have:=(hT t tj h1).und;rw[h2]at this;exact this
 simp_all
theorem lV{t:Nat}(h:T.AI2 t=true):∃e,P.underlying t=some (.slice e):=by
 unfold JY.AI2 at h;split at h
 ·rename_i e hd
  simp only[AMI]at hd;obtain⟨tj,h1,h2⟩:=hd;have:=(hT t tj h1).und;rw[h2]at this;exact⟨e,this⟩
 simp_all
omit hT in
theorem IG{x:XV}{n:Int}(e:cx x=some n){v:Value}(hx:XR E w vw x v):∃κ,v= .int κ n:=by
 unfold cx at e;split at e
 ·cases e;exact⟨_,aU (E:=E) (w:=w) (vw:=vw) hx⟩
 ·cases e
theorem dV{t:Nat}{r:Ty}(h:T.M6 t r=true){κ:IntKind}{i:Int}{a:Addr}{len cap:Nat}(h0:0≤i)(h1:i<(len:Int)):
  (Instr.indexAt t (.slice (some a) len cap) (.int κ i)).run P w= .ok (.pointer (some (a.add (i.toNat*r.n)))) w:=by
 obtain⟨e,ti,hu,Um,hs,_⟩:=J6 hT h;have PC:=Eo.sizeOf hT Um w;simp[Instr.indexAt,asIntOf,BZ hu,h0,h1,PC,hs]
omit hT in
theorem yw{bx:List Bx}{Fs:List AA4}(hB:NB E w bx bx Fs)(st:∀c,E.S c→E.T c){x:AV}{v:Value}(hv:VR E w bx x v){q:Ty}{ys:List q.D}(e:M_ bx x=some ⟨q,ys⟩):
  ∃a cap,v= .slice a ys.length cap∧ys.length≤cap∧(ys.length=0∨ ∃b o,a=some ⟨b,o,none⟩):=by
 have:=Zh (FH.refl bx) hB st hv e;simp only[Rd]at this;obtain⟨a,cap,h1,h2,h3⟩:=this;simp only[AQj,ATG]at h1;exact⟨a,cap,h1,h2,h3.imp id fun⟨b,o,h,_⟩=>⟨b,o,h⟩⟩
theorem iv{σ:St}{Fs:List AA4}(hB:NB E w σ.bx σ.bx Fs)(st:∀c,E.S c→E.T c){t:Nat}{x i:XV}{k:K Y}{y:Y}(e:kE σ T t x i k=some y){v u:Value}
  (hx:XR E w σ.bx x v) (hi:XR E w σ.bx i u):∃z val,k z σ=some y∧(Instr.indexAt t v u).run P w= .ok val w∧XR E w σ.bx z val:=by
 unfold kE at e;split at e
 ·rename_i s r rows n hn
  obtain⟨κ,rfl⟩:=IG hn hi;split at e
  case isFalse=>cases e
  rename_i T7;split at e
  case isFalse=>cases e
  rename_i hb;obtain⟨h0,h1⟩:=hb;simp only[XR,VR,Rd]at hx;obtain⟨a,cap,hv,hl,hx⟩:=hx;simp only[AQj,ATG]at hv;subst hv;rcases hx with hx|⟨b,o,rfl,hb,hx⟩
  ·omega
  ·have Kg:n.toNat<rows.length:=by omega
   obtain⟨cs,c1,c2,c3⟩:=hx n.toNat _ (Qc Kg);refine⟨_,_,e,dV hT T7 h0 h1,b,o+n.toNat*r.n,cs,?_,by omega,c1,c2,by omega⟩;rw[Addr.add_eq];rfl
 ·rename_i b p n hn
  obtain⟨κ,rfl⟩:=IG hn hi;split at e
  case h_2=>cases e
  rename_i q hq;split at e
  case isFalse=>cases e
  rename_i T7;split at e
  case isFalse=>cases e
  rename_i hb;obtain⟨h0,h1⟩:=hb
  change VR E w σ.bx (.ref b p) v at hx
  obtain⟨a,cap,rfl,hl,ha⟩:=yw hB st hx hq;rcases ha with ha|⟨b',o,rfl⟩
  ·omega
  ·refine⟨_,_,e,dV hT T7 h0 h1,by rw[Addr.add_eq];rfl,?_⟩
   simp only[M_]at hq;obtain⟨_,hx⟩:=hx;grind[Addr.add_eq]
 ·rename_i b p off n' n hn
  obtain⟨κ,rfl⟩:=IG hn hi;split at e
  case h_2=>cases e
  rename_i q hq;split at e
  case isFalse=>cases e
  rename_i T7;split at e
  case isFalse=>cases e
  rename_i hb;obtain⟨h0,h1⟩:=hb;simp only[M_]at hq;obtain⟨h00,hx⟩:=hx;revert hx;split
  ·rename_i d r rows vX
   rw[vX]at hq;dsimp only at hq
   rintro⟨hp,q',ys,a,len,cap,g1,g2,g3,rfl⟩
   have Xn:=dR (FH.refl _) hB st vX hp g1 g3;simp only[Rd]at Xn;obtain⟨a',cap',ee,hle,Xn⟩:=Xn;simp only[AQj,Value.slice.injEq,ATG]at ee;obtain⟨rfl,rfl,rfl⟩:=ee;rcases Xn with Xn|⟨b',o,rfl,_,_⟩
   ·omega
   ·unfold Uy
    rw[AMD (by omega)];have hq1:q.1=q':=by
     grind
    refine⟨_,_,e,dV hT T7 h0 h1,by simp only[Option.map];rw[Addr.add_eq,Addr.add_eq];rfl,?_⟩;grind[Addr.add_eq,Nat.add_assoc,Nat.add_mul]
  all_goals simp_all
 simp_all
theorem cJ{σ:St}{t:Nat}{x i:XV}{k:K Y}{y:Y}(e:WJ T t σ x i k=some y){v u:Value}(hx:XR E w vw x v)(hi:XR E w vw i u):
  ∃z val,k z σ=some y∧(Instr.index t v u).run P w= .ok val w∧XR E w vw z val:=by
 unfold WJ at e;split at e
 ·rename_i s n hn
  obtain⟨κ,rfl⟩:=IG hn hi;have hv:=XW (E:=E) (w:=w) (vw:=vw) hx;subst hv;split at e
  case isFalse=>cases e
  rename_i fN;split at e
  case isFalse=>cases e
  rename_i hb;obtain⟨h0,h1⟩:=hb;refine⟨_,.int .u8 ((s.getD n.toNat 0).toNat:Int),e,?_,VR.int (E:=E) (vw:=vw) _ _⟩;have Kg:n.toNat<s.length:=by omega
  have:(⟨s.toArray⟩:ByteArray)[n.toNat]? =some s[n.toNat]:=by
   rw[getElem?_pos _ _ (by grind[ByteArray.size])];rfl
  simp[Instr.index,asIntOf,BZ (XG hT fN),h0,this,Kg]
 simp_all
omit hT in
theorem cm{x z:XV}{i:Nat}(e:py x i=some z){v:Value}(hx:XR E w vw x v):∃u,(Instr.extract v i).run P w= .ok u w∧XR E w vw z u:=by
 unfold py at e;split at e
 case h_2=>cases e
 rename_i l;obtain⟨vs,rfl,VC⟩:=hx;split at e
 ·rename_i x hx
  cases e;obtain⟨v,hv,hr⟩:=VC.get hx;have:vs[i]? =some v:=by simpa using hv
  exact⟨v,by simp[Instr.extract,this],hr⟩
 ·rename_i q hx
  cases e;obtain⟨v,hv,ws,rfl,hr⟩:=VC.get hx;have:vs[i]? =some (.agg ws):=by simpa using hv
  exact⟨.agg ws,by simp[Instr.extract,this],ws,rfl,hr⟩
 ·cases e
omit hT in
theorem l5{bx:List Bx}{Fs:List AA4}(hB:NB E w bx bx Fs)(st:∀c,E.S c→E.T c){x:AV}{n:Nat}(e:lenOf bx x=some n){v:Value}(hx:VR E w bx x v):
  ∃a cap,v= .slice a n cap:=by
 cases x with
 |nil=>simp only[lenOf,AMF]at e;subst e;exact⟨_,_,hx⟩
 |sl s r x=>
  simp only[lenOf,AMF]at e;subst e;simp only[VR,Rd]at hx;obtain⟨a,cap,h,_⟩:=hx;simp only[AQj,ATG]at h;exact⟨a,cap,h⟩
 |ref b p=>
  simp only[lenOf]at e;split at e
  ·rename_i d r rows hb
   simp only[AMI]at e;obtain⟨q,hq,rfl⟩:=e;obtain⟨a,cap,h,_⟩:=yw hB st hx (q:=q.1) (ys:=q.2) (by simp only[M_,hb];exact hq);exact⟨a,cap,h⟩
  ·cases e
 |win b p off m=>
  simp only[lenOf]at e;split at e
  ·rename_i d r rows hb
   cases e;simp only[VR,hb]at hx;obtain⟨_,_,q,ys,a,len,cap,_,_,_,rfl⟩:=hx;exact⟨_,_,rfl⟩
  ·cases e
 |_=>simp[lenOf]at e
omit hT in
theorem TF{big:Bool}{x z:XV}{k:AV→Option Y}{y:Y}(e:tQ big x z k=some y){v u:Value}(hx:XR E w vw x v)(hz:XR E w vw z u)(t s:Array TypeId)(tt:TypeId):
  ∃r val,k r=some y∧(if big then Builtin.max_ t tt #[v,u]else Builtin.min_ t tt #[v,u]).run P w= .ok val w∧VR E w vw r val:=by
 unfold tQ at e;split at e
 ·rename_i j m j' n
  have hv:=aU (E:=E) (w:=w) (vw:=vw) hx;have hu:=aU (E:=E) (w:=w) (vw:=vw) hz;subst hv hu;split at e
  case isFalse=>cases e
  rename_i hj;subst hj;cases big with
  |true=>exact⟨_,.int j (if n>m then n else m),e,by simp[Builtin.max_,Builtin.max2],VR.int _ _⟩
  |false=>exact⟨_,.int j (if n<m then n else m),e,by simp[Builtin.min_,Builtin.min2],VR.int _ _⟩
 ·cases e
omit hT in
theorem lT{op:UnOp}{x:XV}{k:AV→Option Y}{y:Y}(e:unX op x k=some y){v:Value}(hx:XR E w vw x v):
  ∃r val,k r=some y∧(Op.unary op v).run P w= .ok val w∧VR E w vw r val:=by
 unfold unX at e;split at e
 ·have hv:=Rg (E:=E) (w:=w) (vw:=vw) hx
  subst hv;exact⟨_,_,e,by simp[Op.unary],VR.bool _⟩
 ·rename_i j n
  have hv:=aU (E:=E) (w:=w) (vw:=vw) hx;subst hv;exact⟨_,.int j (j.wrap (0-n)),e,by simp[Op.unary,Op.intArith],VR.int _ _⟩
 ·cases e
end
end Go.Fw
end
section
namespace Go.Fw
theorem Qy{a:Ty}(x:a.D):qe rfl x=x:=rfl
theorem eD{w:World}{S:Nat→Prop}:∀{r:Ty} {d j:Nat} {cs:List Value} {x:r.D} {F:AA4} {t:Ty} {y:t.D},Ow w S d r cs x F→BR r j x=some ⟨t,y⟩→
  ∃v F1 F2,cs[j]? =some v∧Ow w S d t [v] y F1∧F.Perm (F1++F2)∧
   ∀(w':World) (S':Nat→Prop) (v':Value) (y':t.D) (ni:AA4) (x':r.D),(∀b,S b→S' b)→(∀b,S b→w'.heap[b]? =w.heap[b]?)→(∀b∈F2,w'.heap[b]? =w.heap[b]?)→
    Ow w' S' d t [v'] y' ni→D6 r j x t y' =some x'→ ∃F',F'.Perm (ni++F2)∧Ow w' S' d r (cs.set j v') x' F'
 | .cons c r,d,0,cs,x,F,t,y,h,e=>by
  simp only[Ow]at h;obtain⟨v,l,A,B,rfl,rfl,h1,h2⟩:=h;simp only[BR,AMF,AM9]at e;obtain⟨rfl,e⟩:=e;obtain rfl:=ARx e;refine⟨v,A,B,rfl,h1,AXe _,fun w' S' v' y' ni x' hS rv hF ho hx=> ?_⟩;simp only[D6,AXR,Qy,AMF]at hx;subst hx;refine⟨ni++B,AXe _,?_⟩;simp only[Ow,AXJ];exact⟨v',l,ni,B,rfl,rfl,ho,EX hS rv hF h2⟩
 | .cons c r,d,j+1,cs,x,F,t,y,h,e=>by
  simp only[Ow]at h;obtain⟨v,l,A,B,rfl,rfl,h1,h2⟩:=h;simp only[BR]at e;obtain⟨u,F1,F2,k1,k2,k3,k4⟩:=eD h2 e;refine⟨u,F1,A++F2,by simp_all,k2,?_,fun w' S' v' y' ni x' hS rv hF ho hx=> ?_⟩
  ·grind
  ·simp only[D6,AMI]at hx
   obtain⟨z,hz,rfl⟩:=hx;obtain⟨F',p1,p2⟩:=k4 w' S' v' y' ni z hS rv (fun b hb=>hF b (by simp[hb])) ho hz;refine⟨A++F',?_,?_⟩
   ·grind
   ·simp only[Ow,List.set_cons_succ]
    exact⟨v,_,A,F',rfl,rfl,EX hS rv (fun b hb=>hF b (by simp[hb])) h1,p2⟩
 | .int k,d,0,cs,x,F,t,y,h,e=>by
  simp only[BR,AMF,AM9]at e;obtain⟨rfl,e⟩:=e;obtain rfl:=ARx e;have hc:=XT h;obtain⟨v,rfl⟩:∃v,cs=[v]:=by
   cases cs with
   |nil=>simp[Ty.n]at hc
   |cons a l=>cases l with
    |nil=>simp_all
    |cons _ _=>simp[Ty.n]at hc
  refine⟨v,F,[],rfl,h,by simp,fun w' S' v' y' ni x' hS rv hF ho hx=>⟨ni,by simp,?_⟩⟩;simp only[D6,AXR,Qy,AMF]at hx;simp_all
 | .bool,d,0,cs,x,F,t,y,h,e=>by
  simp only[BR,AMF,AM9]at e;obtain⟨rfl,e⟩:=e;obtain rfl:=ARx e;have hc:=XT h;obtain⟨v,rfl⟩:∃v,cs=[v]:=by
   cases cs with
   |nil=>simp[Ty.n]at hc
   |cons a l=>cases l with
    |nil=>simp_all
    |cons _ _=>simp[Ty.n]at hc
  refine⟨v,F,[],rfl,h,by simp,fun w' S' v' y' ni x' hS rv hF ho hx=>⟨ni,by simp,?_⟩⟩;simp only[D6,AXR,Qy,AMF]at hx;simp_all
 | .str,d,0,cs,x,F,t,y,h,e=>by
  simp only[BR,AMF,AM9]at e;obtain⟨rfl,e⟩:=e;obtain rfl:=ARx e;have hc:=XT h;obtain⟨v,rfl⟩:∃v,cs=[v]:=by
   cases cs with
   |nil=>simp[Ty.n]at hc
   |cons a l=>cases l with
    |nil=>simp_all
    |cons _ _=>simp[Ty.n]at hc
  refine⟨v,F,[],rfl,h,by simp,fun w' S' v' y' ni x' hS rv hF ho hx=>⟨ni,by simp,?_⟩⟩;simp only[D6,AXR,Qy,AMF]at hx;simp_all
 | .sl r,d,0,cs,x,F,t,y,h,e=>by
  simp only[BR,AMF,AM9]at e;obtain⟨rfl,e⟩:=e;obtain rfl:=ARx e;have hc:=XT h;obtain⟨v,rfl⟩:∃v,cs=[v]:=by
   cases cs with
   |nil=>simp[Ty.n]at hc
   |cons a l=>cases l with
    |nil=>simp_all
    |cons _ _=>simp[Ty.n]at hc
  refine⟨v,F,[],rfl,h,by simp,fun w' S' v' y' ni x' hS rv hF ho hx=>⟨ni,by simp,?_⟩⟩;simp only[D6,AXR,Qy,AMF]at hx;simp_all
 | .unit,_,_,_,_,_,_,_,_,e=>by simp[BR]at e
 | .int _,_,_+1,_,_,_,_,_,_,e=>by simp[BR]at e
 | .bool,_,_+1,_,_,_,_,_,_,e=>by simp[BR]at e
 | .str,_,_+1,_,_,_,_,_,_,e=>by simp[BR]at e
 | .sl _,_,_+1,_,_,_,_,_,_,e=>by simp[BR]at e
theorem kU{Fs:List AA4}{i:Nat}{G G':AA4}(h:Fs[i]? =some G):(Fs.set i G').flatten.Perm (G'++(Fs.set i []).flatten):=by
 have Kg:=(AMK.1 h).1;have p1:=UP (Fs:=Fs.set i G') (b:=i) (F:=G') (ATT (by omega));simp_all
theorem ta{w:World}{S:Nat→Prop}{d:Nat}{q:Ty}{a:Option Addr}{len cap:Nat}{ys:List q.D}{F:AA4}(h:Ow w S (d+1) (.sl q) [.slice a len cap] ys F){i:Nat}(hi:i<ys.length):
  ∃b o arr ty fr cs G R,a=some ⟨b,o,none⟩∧w.heap[b]? =some (.cells arr ty fr)∧vy fr arr.size∧o+i*q.n+q.n≤arr.size∧cs.length=q.n∧Bc w b (o+i*q.n) cs∧
   Ow w S d q cs (rowAt q ys i) G∧F.Perm (G++(b::R))∧
   ∀(w':World) (S':Nat→Prop) (KI:Array Value) (dM:List Value) (Zs:q.D) (G':AA4),(∀c,S c→S' c)→(∀c,S c→w'.heap[c]? =w.heap[c]?)→(∀c∈R,w'.heap[c]? =w.heap[c]?)→
    w'.heap[b]? =some (.cells KI ty fr)→KI.size=arr.size→(∀k,(k<o+i*q.n∨o+i*q.n+q.n≤k)→KI[k]? =arr[k]?)→dM.length=q.n→Bc w' b (o+i*q.n) dM→
    Ow w' S' d q dM Zs G'→ ∃F',F'.Perm (G'++(b::R))∧Ow w' S' (d+1) (.sl q) [.slice a len cap] (ys.set i Zs) F':=by
 simp only[Ow]at h;obtain⟨a',cap',e,hle,h⟩:=h;simp only[AQj,Value.slice.injEq,ATG]at e;obtain⟨rfl,rfl,rfl⟩:=e;rcases h with⟨h1,_⟩|⟨b,o,arr,ty,fr,Fs,rfl,hb,PC,hu,rfl,hFl,cK⟩
 ·omega
 ·have hG:Fs[i]? =some (Fs[i]'(by omega)):=AL5 _
  generalize Fs[i]'(by omega)=G at hG
  obtain⟨cs,c1,c2,c3⟩:=cK i _ G (Qc hi) hG;have hbound:o+i*q.n+q.n≤arr.size:=by
   have:(i+1)*q.n≤cap*q.n:=AOr _ (by omega);grind
  refine⟨b,o,arr,ty,fr,cs,G,(Fs.set i []).flatten,rfl,hb,fun i hi=>hu i (by omega),hbound,c1,c2,c3,?_,?_⟩
  ·refine(List.Perm.cons b (UP hG)).trans ?_
   exact List.perm_middle.symm
  ·intro w' S' KI dM Zs G' hS rv hR hb' xi hk cO hca ho
   refine⟨b::(Fs.set i G').flatten,?_,?_⟩
   ·grind[List.Perm.cons,kU,trans]
   ·simp only[Ow]
    refine⟨_,cap,by simp,by simp_all,.inr ⟨b,o,KI,ty,fr,Fs.set i G',rfl,hb',by omega,by simp_all,rfl,by simp_all,fun k y H hy hH=> ?_⟩⟩;by_cases e:k=i
    ·grind
    ·rw[AS4 (by omega)]at hy
     rw[AS4 (by omega)]at hH;obtain⟨ds,d1,d2,d3⟩:=cK k y H hy hH;refine⟨ds,d1,fun j v hj=> ?_,EX hS rv (fun c hc=>hR c (ASw.2 ⟨H,ANi (by grind:(Fs.set i [])[k]? =some H),hc⟩)) d3⟩;have qu:=(AMK.1 hj).1;have hold:=d2 j v hj;simp only[World.cell?,hb,ATN,AMO,AOR]at hold;simp only[World.cell?,hb',ATN,AMO,AOR];rw[hk,hold];rcases Nat.lt_or_gt_of_ne e with e|e
     ·left
      have:(k+1)*q.n≤i*q.n:=AOr _ e;grind
     ·right
      have:(i+1)*q.n≤k*q.n:=AOr _ e;grind
theorem pg{w:World}{S:Nat→Prop}:∀{p:List WN} {d:Nat} {r:Ty} {h:Value} {rows:List r.D} {F:AA4} {q:Ty} {ys:List q.D},Ow w S d (.sl r) [h] rows F→DA r rows p→
  Gy r rows p=some ⟨q,ys⟩→p.length<d→ ∃h' F1 F2,Ij w h p=some h'∧Ow w S (d-p.length) (.sl q) [h'] ys F1∧F.Perm (F1++F2)∧
   ∀(w':World) (S':Nat→Prop) (vU:List q.D) (ni:AA4) (Cz:List r.D),(∀c,S c→S' c)→(∀c,S c→w'.heap[c]? =w.heap[c]?)→(∀c∈F2,w'.heap[c]? =w.heap[c]?)→
    Ow w' S' (d-p.length) (.sl q) [h'] vU ni→o5 r rows p q vU=some Cz→ ∃F',F'.Perm (ni++F2)∧Ow w' S' d (.sl r) [h] Cz F'
 |[],d,r,h,rows,F,q,ys,ho,_,hg,_=>by
  simp only[Gy,AMF,AM9]at hg;obtain⟨rfl,e⟩:=hg;obtain rfl:=ARx e;refine⟨h,F,[],C8,ho,by simp,fun w' S' vU ni Cz _ _ _ vZ hs=>⟨ni,by simp,?_⟩⟩;simp only[o5,AXR,Qy,AMF]at hs;simp_all
 |s::p,d,r,h,rows,F,q,ys,ho,hp,hg,hd=>by
  obtain⟨d,rfl⟩:∃n,d=n+1:=⟨d-1,by omega⟩;simp only[DA]at hp;obtain⟨hi,PC,hp⟩:=hp;simp only[Gy]at hg;obtain⟨a,len,cap,rfl⟩:∃a len cap,h= .slice a len cap:=by
   have:=ho;simp only[Ow]at this;grind
  split at hg
  case h_2=>cases hg
  rename_i q' x' fz;rw[fz]at hp;obtain⟨b,o,arr,ty,fr,cs,G,R,rfl,hb,hu,hbd,c1,c2,c3,pz,hback⟩:=ta ho hi;obtain⟨v,A1,A2,k1,k2,k3,k4⟩:=eD c3 fz;obtain⟨h',F1,F2,m1,m2,m3,m4⟩:=pg k2 hp hg (by simp_all);have ACR:d+1-(s::p).length=d-p.length:=by simp
  refine⟨h',F1,F2++A2++(b::R),?_,by simp_all,?_,?_⟩
  ·simp only[Ij]
   rw[PC,c2 _ _ k1];omega
  ·grind
  ·intro w' S' vU ni Cz hS rv hF2 vZ WT
   rw[ACR]at vZ;simp only[o5,fz]at WT;simp only[AMQ,AMI]at WT;obtain⟨x2,hx2,Zs,hrow,rfl⟩:=WT;obtain⟨B1,p1,p2⟩:=m4 w' S' vU ni x2 hS rv (fun c hc=>hF2 c (by simp[hc])) vZ hx2;obtain⟨B2,p3,p4⟩:=k4 w' S' v x2 B1 Zs hS rv (fun c hc=>hF2 c (by simp[hc])) p2 hrow;have AJv:cs.set s.j v=cs:=by
    apply AVx;grind
   rw[AJv]at p4;have hbb:=hF2 b (by simp);obtain⟨F',p5,p6⟩:=hback w' S' arr cs Zs B2 hS rv (fun c hc=>hF2 c (by simp[hc])) (hbb.trans hb) rfl (fun _ _=>rfl) c1 (c2.of_block hbb) p4;grind
end Go.Fw
end
section
namespace Go.Fw
def OR(E:Env)(w:World)(vw:List Bx):Option XV→Option Value→Prop
 |none,none=>True
 |some x,some v=>XR E w vw x v
 |_,_=>False
section
variable{Y:Type} {P:Program} {T:JY} (hT:Eo P T) {E:Env} {w:World} {vw:List Bx}
theorem run_sliceBound{κ:IntKind}{i:Int}{y:Nat}{code:BoundsCode}(h0:0≤i)(h1:i≤(y:Int)):(Instr.sliceBound (.int κ i) y code).run P w= .ok i.toNat w:=by
 simp[Instr.sliceBound,asIntOf,h0,h1]
theorem TT{len cap:Nat}(hc:len≤cap){lo hi:Option XV}{k:Nat→Nat→Option Y}{y:Y}(e:OJ len lo hi k=some y){lv hv:Option Value}
  (hl:OR E w vw lo lv) (hh:OR E w vw hi hv) (b:Bool):∃l h,k l h=some y∧l≤h∧h≤len∧(Instr.sliceBounds b len cap lv hv none).run P w= .ok (l,h,cap) w:=by
 unfold OJ at e;dsimp only at e;split at e
 case h_2=>cases e
 rename_i l h el eh;split at e
 case isFalse=>cases e
 rename_i hb;obtain⟨b1,b2,b3⟩:=hb;refine⟨l.toNat,h.toNat,e,by omega,by omega,?_⟩;cases hi with
 |none=>cases hv with
  |some _=>exact hh.elim
  |none=>
   simp only[AMF]at eh;subst eh;cases lo with
   |none=>cases lv with
    |some _=>exact hl.elim
    |none=>
     simp only[AMF]at el;subst el;rfl
   |some x=>cases lv with
    |none=>exact hl.elim
    |some v=>
     obtain⟨κ,rfl⟩:=IG (E:=E) (w:=w) (vw:=vw) el hl;simp[Instr.sliceBounds,run_sliceBound (P:=P) (w:=w) (κ:=κ) (i:=l) (y:=len) b1 (by omega)]
 |some x=>cases hv with
  |none=>exact hh.elim
  |some v=>
   obtain⟨κ,rfl⟩:=IG (E:=E) (w:=w) (vw:=vw) eh hh;have e1:=fun code=>run_sliceBound (P:=P) (w:=w) (κ:=κ) (i:=h) (y:=cap) (code:=code) (by omega) (by omega)
   cases lo with
   |none=>cases lv with
    |some _=>exact hl.elim
    |none=>
     simp only[AMF]at el;subst el;simp[Instr.sliceBounds,e1]
   |some x=>cases lv with
    |none=>exact hl.elim
    |some v=>
     obtain⟨κ',rfl⟩:=IG (E:=E) (w:=w) (vw:=vw) el hl;have e2:=fun code=>run_sliceBound (P:=P) (w:=w) (κ:=κ') (i:=l) (y:=h.toNat) (code:=code) b1 (by omega)
     simp[Instr.sliceBounds,e1,e2]
theorem rF(s:ACC)(l h:Nat):(⟨s.toArray⟩:ByteArray).extract l h=⟨((s.drop l).take (h-l)).toArray⟩:=by
 apply ByteArray.ext;simp[List.extract_eq_take_drop]
include hT
theorem jS{σ:St}{Fs:List AA4}(hB:NB E w σ.bx σ.bx Fs)(st:∀c,E.S c→E.T c){t:Nat}{x:XV}{lo hi:Option XV}{k:K Y}{y:Y}(e:jj T t σ x lo hi k=some y)
  {v:Value} {lv hv:Option Value} (hx:XR E w σ.bx x v) (hl:OR E w σ.bx lo lv) (hh:OR E w σ.bx hi hv):
  ∃z val,k z σ=some y∧(Instr.sliceAt t v lv hv none).run P w= .ok val w∧XR E w σ.bx z val:=by
 unfold jj at e;split at e
 ·rename_i s
  split at e
  case isFalse=>cases e
  rename_i fN;have hu:=XG hT fN;have X5:=XW (E:=E) (w:=w) (vw:=σ.bx) hx;subst X5;obtain⟨l,h,ek,h1,h2,hr⟩:=TT (P:=P) (cap:=s.length) (AQW _) e hl hh false;refine⟨_,.string ⟨((s.drop l).take (h-l)).toArray⟩,ek,?_,VR.str (E:=E) (vw:=σ.bx) _⟩;have hs:(⟨s.toArray⟩:ByteArray).size=s.length:=by rfl
  simp[Instr.sliceAt,BZ hu,Instr.slice,hs,hr,rF]
 ·rename_i s r rows
  split at e
  case isFalse=>cases e
  rename_i T7;obtain⟨el,ti,hu,Um,hs,_⟩:=J6 hT T7;have PC:=Eo.sizeOf hT Um w
  change VR E w σ.bx (.sl s r rows) v at hx
  have zo:=hx;simp only[VR,Rd]at zo;obtain⟨a,cap,X5,hle,_⟩:=zo;simp only[AQj,ATG]at X5;subst X5;obtain⟨l,h,ek,h1,h2,hr⟩:=TT (P:=P) hle e hl hh true;refine⟨_,Uy r.n l (h-l) a cap,ek,?_,?_⟩
  ·simp[Instr.sliceAt,BZ hu,Instr.slice,hr,PC,hs,Uy]
  grind[XR,VR,zO]
 ·rename_i b p
  split at e
  case h_2=>cases e
  rename_i q hq;split at e
  case isFalse=>cases e
  rename_i T7;obtain⟨el,ti,hu,Um,hs,_⟩:=J6 hT T7;have PC:=Eo.sizeOf hT Um w
  change VR E w σ.bx (.ref b p) v at hx
  obtain⟨a,cap,rfl,hle,_⟩:=yw hB st hx hq;obtain⟨l,h,ek,h1,h2,hr⟩:=TT (P:=P) hle e hl hh true;refine⟨_,Uy q.1.n l (h-l) a cap,ek,?_,?_⟩
  ·simp[Instr.sliceAt,BZ hu,Instr.slice,hr,PC,hs,Uy]
  ·simp only[M_]at hq
   obtain⟨_,hx⟩:=hx;refine⟨by rfl,?_⟩;grind
 simp_all
omit hT in
theorem bA{f:Nat→Option AV}:∀{n j:Nat} {l:List AV},dJ f j n=some l→l.length=n∧ ∀(i:Nat) x,l[i]? =some x→f (j+i)=some x
 |0,j,l,e=>by simp only[dJ,AMF]at e;subst e;simp
 |n+1,j,l,e=>by
  simp only[dJ,AMQ,AMI]at e;obtain⟨x,hx,l',hl,rfl⟩:=e;obtain⟨h1,h2⟩:=bA hl;refine⟨by simp[h1],fun i z hz=> ?_⟩;cases i with
  |zero=>simp at hz;subst hz;exact hx
  |succ i=>
   have:=h2 i z (by simpa using hz)
   rwa [show j+1+i=j+(i+1)by omega]at this
omit hT in
theorem WO{B:Nat→Prop}{t:Ty}{x:t.D}{v:Value}(h:Rd w B t [v] x)(hs:t.scalar=true):VR E w vw (.v t x) v:=by
 refine⟨hs,?_⟩;cases t<;>first
  |(simpa only[Rd]using h)
  |(simp[Ty.scalar]at hs)
omit hT in
theorem ABU{s:Bool}{t:Ty}{x:t.D}{v:Value}(h:Rd w (if s then E.S else E.T) t [v] x):VR E w vw (yg s ⟨t,x⟩) v:=by
 cases t with
 |sl r=>simp only[yg,VR];exact h
 |int k=>exact WO h rfl
 |bool=>exact WO h rfl
 |str=>exact WO h rfl
 |unit=>trivial
 |cons c r=>trivial
omit hT in
theorem mJ{s:WN}:∀{p:List WN} {r:Ty} {rows:List r.D} {q:Ty} {ys:List q.D} {t:Ty} {x:List t.D},DA r rows p→Gy r rows p=some ⟨q,ys⟩→s.i<ys.length→s.sz=q.n→
  BR q s.j (rowAt q ys s.i)=some ⟨.sl t,x⟩→DA r rows (p++[s])∧Gy r rows (p++[s])=some ⟨t,x⟩
 |[],r,rows,q,ys,t,x,_,hg,hi,hs,hc=>by
  simp only[Gy,AMF,AM9]at hg;obtain⟨rfl,e⟩:=hg;obtain rfl:=ARx e;refine⟨?_,?_⟩
  ·simp only[ATA,DA,hc]
   exact⟨hi,hs,trivial⟩
  ·simp only[ATA,Gy,hc]
 |s'::p,r,rows,q,ys,t,x,hp,hg,hi,hs,hc=>by
  simp only[DA]at hp;obtain⟨h1,h2,hp⟩:=hp;simp only[Gy]at hg;split at hg
  ·rename_i q' x' fz
   rw[fz]at hp;obtain⟨a,b⟩:=mJ hp hg hi hs hc;refine⟨?_,?_⟩
   ·simp only[AWW,DA,fz]
    exact⟨h1,h2,a⟩
   ·simp only[AWW,Gy,fz]
    exact b
  ·cases hg
omit hT in
theorem ou{s:WN}:∀{p:List WN} {h:Value} {b o len cap:Nat} {v:Value},Ij w h p=some (.slice (some ⟨b,o,none⟩) len cap)→w.cell? ⟨b,o+s.i*s.sz+s.j,none⟩=some v→
  Ij w h (p++[s])=some v
 |[],h,b,o,len,cap,v,e,hc=>by
  rw[C8]at e;cases e;simp[Ij,hc,C8]
 |s'::p,h,b,o,len,cap,v,e,hc=>by
  cases h with
  |slice a l c=>
   cases a with
   |none=>simp[Ij]at e
   |some a=>
    simp only[Ij]at e;split at e
    ·rename_i h' hh
     simp only[AWW,Ij,hh];exact ou e hc
    ·cases e
  |_=>simp[Ij]at e
omit hT in
theorem Lg{bx:List Bx}{Fs:List AA4}(hB:NB E w bx bx Fs)(st:∀c,E.S c→E.T c){x z:AV}{i:Nat}(e:I2 bx x i=some z){v:Value}(hx:VR E w bx x v):
  ∃b o u,v= .pointer (some ⟨b,o,none⟩)∧w.cell? ⟨b,o+i,none⟩=some u∧VR E w bx z u:=by
 cases x with
 |IC b j=>
  simp only[I2]at e;split at e
  ·rename_i cs hb
   obtain⟨F,⟨_,arr,ty,fr,ha,hu,hv⟩,_⟩:=hB.get hb;obtain⟨u,h1,h2⟩:=CT.get hv e;refine⟨_,_,u,hx.2,?_,h2⟩;simp only[World.cell?,ha,ATN,AMO,AOR];simpa using h1
  ·cases e
 |JQ b p r sz j=>
  simp only[I2]at e;split at e
  ·rename_i d q rows hb
   split at e
   case isFalse=>cases e
   rename_i hd;simp only[AMQ]at e;obtain⟨⟨q',vU⟩,hg,e⟩:=e;split at e
   case isFalse=>cases e
   rename_i PC;simp only[AMI]at e;obtain⟨⟨t,y⟩,hc,rfl⟩:=e;simp only[VR,hb]at hx;obtain⟨_,hp,q1,ys,bb,o,len,cap,g1,g2,g3,rfl⟩:=hx;rw[hg]at g1;simp only[AMF,AM9]at g1;obtain⟨rfl,g1⟩:=g1;obtain rfl:=ARx g1;dsimp only at PC hc;obtain⟨F,⟨hd1,ho⟩,hF⟩:=hB.get hb;have Xn:=dR (FH.refl bx) hB st hb hp hg g3;have AdW:=Xn;simp only[Rd]at Xn;obtain⟨a',cap',ee,hle,Xn⟩:=Xn;simp only[AQj,Value.slice.injEq,ATG]at ee;obtain⟨rfl,rfl,rfl⟩:=ee;rcases Xn with Xn|⟨b1,o1,e7,_,Xn⟩
   ·omega
   ·cases e7
    obtain⟨cs,c1,c2,c3⟩:=Xn r _ (Qc g2);obtain⟨u,hu,hur⟩:=eS c3 hc;have Z4:=c2 _ _ hu;rw[←PC]at Z4;refine⟨_,_,u,rfl,by rw[AT8];exact Z4,?_⟩;cases t with
    |sl t' =>
     simp only[AAx];split
     ·rename_i hdd
      obtain⟨h',F1,F2,m1,m2,_,_⟩:=pg ho hp hg hd;rw[g3]at m1;cases m1;rw[show d-p.length=0+1 by omega]at m2;obtain⟨b2,o2,arr,ty,fr,cs2,G,R,e2,_,_,_,_,k2,k3,_,_⟩:=ta m2 g2;cases e2;obtain⟨v2,A1,A2,z1,z2,_,_⟩:=eD k3 hc;have AFo:=k2 _ _ z1;rw[←PC,Z4]at AFo;cases AFo;simp only[Ow]at z2;simp only[VR];exact z2.1
     ·simp only[VR,hb]
      have:=mJ (s:=⟨r,sz,j+i⟩) hp hg g2 PC hc;simp only[Rd]at hur;obtain⟨a2,cap2,e2,_⟩:=hur;simp only[AQj,ATG]at e2;refine⟨by rw[e2];rfl,this.1,⟨_,this.2⟩,ou g3 Z4⟩
    |int k=>exact WO hur rfl
    |bool=>exact WO hur rfl
    |str=>exact WO hur rfl
    |unit=>trivial
    |cons c r=>trivial
  ·cases e
 |PE s r y j=>
  simp only[I2,AMI]at e;obtain⟨⟨t,y'⟩,hc,rfl⟩:=e;obtain⟨bb,o,cs,rfl,h2,h3,h4,h5⟩:=hx;obtain⟨u,hu,hur⟩:=eS h5 hc;refine⟨_,_,u,rfl,by rw[AT8];exact h4 _ _ hu,ABU hur⟩
 |_=>simp[I2]at e
omit hT in
theorem dB{bx:List Bx}{Fs:List AA4}(hB:NB E w bx bx Fs)(st:∀c,E.S c→E.T c){x:AV}{v:Value}(hx:VR E w bx x v){b o:Nat}(hv:v= .pointer (some ⟨b,o,none⟩)):
  ∀{l:List AV} {j:Nat},(∀(i:Nat) z,l[i]? =some z→I2 bx x (j+i)=some z)→ ∃cs:List Value,cs.length=l.length∧Bc w b (o+j) cs∧iz E w bx l cs
 |[],_,_=>⟨[],rfl,fun _ _ h=>by simp at h,trivial⟩
 |z::l,j,h=>by
  obtain⟨b',o',u,e1,e2,e3⟩:=Lg hB st (h 0 z rfl) hx;subst hv;simp only[Value.pointer.injEq,AMF,Addr.mk.injEq,ATG]at e1;obtain⟨rfl,rfl⟩:=e1;obtain⟨cs,c1,c2,c3⟩:=dB hB st hx rfl (l:=l) (j:=j+1) (fun i y hy=>by
   have:=h (i+1) y (by simpa using hy)
   rwa [show j+1+i=j+(i+1)by omega])
  refine⟨u::cs,by simp[c1],fun i y hy=> ?_,e3,c3⟩;cases i with
  |zero=>simp at hy;subst hy;exact e2
  |succ i=>
   have:=c2 i y (by simpa using hy)
   rwa [show o+(j+1)+i=o+j+(i+1)by omega]at this
theorem vu{σ:St}{Fs:List AA4}(hB:NB E w σ.bx σ.bx Fs)(st:∀c,E.S c→E.T c){t:Nat}{x z:XV}(e:mB T t σ x=some z){v:Value}(hx:XR E w σ.bx x v):
  ∃u,(Instr.loadAt t v).run P w= .ok u w∧XR E w σ.bx z u:=by
 unfold mB at e;split at e
 case h_2=>cases e
 rename_i x ti Um;split at e
 case isTrue=>cases e
 rename_i PC;have je:=Eo.isAgg hT Um w;split at e
 ·rename_i ha
  rw[ha]at je;simp only[AMI]at e;obtain⟨l,hl,rfl⟩:=e;obtain⟨h1,h2⟩:=bA hl;have h0:0<l.length:=by omega
  obtain⟨b,o,u,hv,_,_⟩:=Lg hB st (h2 0 _ (AL5 h0)) hx;obtain⟨cs,c1,c2,c3⟩:=dB hB st hx hv (l:=l) (j:=0) (fun i y hy=>by simp_all);subst hv;have iq:=(hT t ti Um).und;cases hd:ti.desc with
  |st fs=>
   rw[hd]at iq;obtain⟨fields,hu,_⟩:=iq;refine⟨.agg cs.toArray,run_loadAt_mid w b o t cs _ (by grind[Bc,World.rangeAt]) hu rfl ?_,cs.toArray,rfl,by omega⟩;grind[Eo.size]
  |_=>grind[TD.agg]
 ·rename_i ha
  simp only[APC]at ha;rw[ha]at je;simp only[AMI]at e;obtain⟨y,hy,rfl⟩:=e;obtain⟨b,o,u,hv,hc,hr⟩:=Lg hB st hy hx;subst hv;refine⟨u,?_,hr⟩;simp only[AUN]at hc;simp[Instr.loadAt,Instr.sureAddr,loadVar,je,hc]
end
end Go.Fw
end
section
namespace Go.Fw
theorem qb{w:World}{S:Nat→Prop}{d:Nat}{q:Ty}:Ow w S d (.sl q) [.slice none 0 0] [] []:=by
 cases d with
 |zero=>simp only[Ow,Rd];simp_all
 |succ d=>simp only[Ow];simp_all
theorem AE8{w:World}{S:Nat→Prop}{d:Nat}{r:Ty}{a:Option Addr}{len cap:Nat}{ys:List r.D}{F:AA4}(h:Ow w S (d+1) (.sl r) [.slice a len cap] ys F){off n:Nat}(hn:off+n≤ys.length):
  ∃F1 F2,F.Perm (F1++F2)∧Ow w S (d+1) (.sl r) [Uy r.n off n a cap] ((ys.drop off).take n) F1:=by
 simp only[Ow]at h⊢;obtain⟨a',cap',e,hc,h⟩:=h;simp only[AQj,Value.slice.injEq,ATG]at e;obtain⟨rfl,rfl,rfl⟩:=e;have hl:((ys.drop off).take n).length=n:=by grind
 by_cases h0:cap=off
 ·subst h0
  refine⟨[],F,by simp,a,0,by simp[Uy,hl],by omega,.inl ⟨rfl,rfl⟩⟩
 ·rcases h with⟨h,rfl⟩|⟨b,o,arr,ty,fr,Fs,rfl,hb,PC,hu,rfl,hFl,hr⟩
  ·omega
  ·have p:Fs.flatten.Perm (((Fs.drop off).take n).flatten++((Fs.take off).flatten++(Fs.drop (off+n)).flatten)):=by
    grind[List.drop_drop,List.take_append_drop,List.flatten_append,List.append_assoc,List.Perm.append_right,List.perm_append_comm]
   refine⟨b::((Fs.drop off).take n).flatten,(Fs.take off).flatten++(Fs.drop (off+n)).flatten,List.Perm.cons b p,some ⟨b,o+off*r.n,none⟩,cap-off,?_,by omega,.inr ⟨b,o+off*r.n,arr,ty,fr,_,rfl,hb,?_,hu,rfl,?_,?_⟩⟩
   ·grind[Uy,Addr.add_eq]
   ·have:off*r.n+(cap-off)*r.n=cap*r.n:=by rw[←ATn];grind
    omega
   all_goals grind
theorem Le.keep{E E':Env}(h:Le E E'){w:World}{vw:List Bx}(st:∀c,E.S c→E.T c):SW E w vw E' w vw:=
 ⟨AQW _,fun b _=>by rw[h.Hk],h.T,h.S,st,fun _ _=>rfl,fun b d r rows _ e=>⟨d,rows,e,fun p hp q ys hg=>⟨hp,⟨ys,hg,rfl⟩,fun h' hh=>by rw[h.Hl];omega⟩⟩⟩
theorem C9.share{E:Env}{w:World}{vw bx:List Bx}{F W G:AA4}(h:C9 E w vw bx (F++W++G)):
  let E':Env:={ E with S:=fun c=>E.S c∨c∈W,T:=fun c=>E.T c∨c∈W }
  Le E E'∧C9 E' w vw bx (F++G):=by
 intro E';have st:=h.st;have hle:Le E E':=⟨rfl,rfl,fun c hc=> .inl hc,fun c hc=> .inl hc,fun c hc=>hc.elim .inl fun h' => .inr (.inr h'),fun c hc=>hc.elim .inl fun h' => .inr (h.AEd c (by simp[h']))⟩;refine⟨hle,?_⟩;obtain⟨Fs,⟨h1,h2⟩,h3⟩:=h;refine⟨Fs,⟨h1,fun k B F' hk hF=> ?_⟩,?_⟩
 ·have:=h2 k B F' hk hF
  cases B with
  |mem cs=>
   obtain⟨rfl,arr,ty,fr,a1,a2,a3⟩:=this;exact⟨rfl,arr,ty,fr,a1,a2,a3.imp fun _ _ hv=>GH (hle.keep st) hv⟩
  |sl d r rows=>exact⟨this.1,EX hle.S (fun _ _=>rfl) (fun _ _=>rfl) this.2⟩
  |dead=>exact this
 ·have h4:Sep E w (W++(Fs.flatten++(F++G))):=h3.perm (by
   grind)
  refine⟨(ANN.1 h4.nodup).2.1,fun c hc ht=> ?_,fun c hc=>h4.lt c (by simp_all),fun c hc=>hc.imp (st c) id,fun c hc=>hc.elim (h4.cS c) fun h' =>h4.lt c (by simp[h'])⟩;rcases ht with ht|ht
  ·exact h4.free c (AOs.2 (.inr hc)) ht
  ·exact(ANN.1 h4.nodup).2.2 c ht c hc rfl
structure G2 (E:Env) (w:World) (vw bx:List Bx) (G:AA4) (E':Env) (QS:List Bx) (F:AA4):Prop where
 le:Le E E'
 len:QS.length=bx.length
 within:∀(b:Nat) (B:Bx),QS[b]? =some B→B= .dead∨bx[b]? =some B
 boxes:C9 E' w vw QS (F++G)
theorem G2.refl{E:Env}{w:World}{vw bx:List Bx}{G:AA4}(h:C9 E w vw bx G):G2 E w vw bx G E bx []:=
 ⟨Le.refl E,rfl,fun _ _ h=> .inr h,h⟩
theorem FH.p_{E E':Env}{w:World}{vw bx QS:List Bx}{G F:AA4}(h:FH bx vw)(k:G2 E w vw bx G E' QS F):FH QS vw:=fun b B e=>
 (k.within b B e).elim .inl (h b B)
theorem bJ{E:Env}{w:World}{vw bx:List Bx}{G:AA4}(h:C9 E w vw bx G)(hw:FH bx vw){d:Nat}(hd:1≤d){t:Ty}{x:AV}{v:Value}(hv:VR E w vw x v){y:t.D}{QS:List Bx}{d':Nat}
  (e:dX d t x bx=some (y,QS,d')):1≤d'∧d'≤d∧ ∃E' F,G2 E w vw bx G E' QS F∧Ow w E'.S (d'-1) t [v] y F:=by
 unfold dX at e;split at e
 ·rename_i u z
  simp only[AMI,APv]at e;obtain⟨z',e1,rfl,rfl,rfl⟩:=e;obtain⟨e2,e3⟩:=Hz e1;subst e2;subst e3;refine⟨hd,AQW _,E,[],G2.refl h,?_⟩;obtain⟨hs,hr⟩:=hv;cases u<;>simp_all[Ty.scalar,Ow,Rd]
 ·split at e
  ·simp only[AMF,APv]at e
   obtain⟨rfl,rfl,rfl⟩:=e;simp only[VR]at hv;subst hv;exact⟨hd,AQW _,E,[],G2.refl h,qb⟩
  simp_all
 ·rename_i r z
  split at e
  ·rename_i q
   simp only[AMI,APv]at e;obtain⟨z',e1,rfl,rfl,rfl⟩:=e;obtain⟨e2,e3⟩:=Hz e1;subst e2;subst e3;refine⟨AQW _,hd,E,[],G2.refl h,?_⟩;simp only[VR]at hv;simp only[AXd,Ow];simp_all
  simp_all
 ·rename_i b
  split at e
  case h_2=>cases e
  rename_i q;split at e
  case h_2=>cases e
  rename_i db r z hb;simp only[AMI,APv]at e;obtain⟨z',e1,rfl,rfl,rfl⟩:=e;obtain⟨e2,e3⟩:=Hz e1;subst e2;subst e3;obtain⟨F0,⟨hd1,ho⟩,hB⟩:=h.take hb;have hvv:v=E.Hl b:=by
   grind[VR,Yx,C8]
  subst hvv;obtain⟨F1,W,hp,vZ⟩:=Jm (d:=min d (db+1)-1) (by omega) ho;have TL:=hB.perm (AU4 G hp);obtain⟨hle,Xg⟩:=TL.share;refine⟨by omega,Nat.min_le_left _ _,_,F1,⟨hle,by simp,fun k B hk=> ?_,Xg⟩,vZ⟩;grind
 ·rename_i b off n
  split at e
  case h_2=>cases e
  rename_i q;split at e
  case h_2=>cases e
  rename_i db r z hb;simp only[AMI,APv]at e;obtain⟨z',e1,rfl,rfl,rfl⟩:=e;obtain⟨e2,e3⟩:=Hz e1;subst e2;subst e3;obtain⟨F0,⟨hd1,ho⟩,hB⟩:=h.take hb;simp only[VR,Yx hw hb,C8]at hv;obtain⟨_,_,q',ys,a,len,cap,hg,hn,hh,rfl⟩:=hv;simp only[Gy,AMF,AM9]at hg;obtain⟨rfl,hg⟩:=hg;obtain rfl:=ARx hg;simp only[AMF]at hh;rw[hh]at ho;obtain⟨db,rfl⟩:∃m,db=m+1:=⟨db-1,by omega⟩;obtain⟨A1,A2,hp0,ho0⟩:=AE8 ho hn;obtain⟨F1,W,hp,vZ⟩:=Jm (d:=min d (db+1+1)-1) (by omega) ho0;have hB1:C9 E w vw (bx.set b .dead) (A1++G):=by
   refine C9.drop (G':=A2) (hB.perm ?_);grind
  have TL:=hB1.perm (AU4 G hp);obtain⟨hle,Xg⟩:=TL.share;refine⟨by omega,Nat.min_le_left _ _,_,F1,⟨hle,by simp,fun k B hk=> ?_,Xg⟩,vZ⟩;grind
 simp_all
theorem ZR{w:World}{vw:List Bx}:∀{r:Ty} {E:Env} {bx:List Bx} {G:AA4} {d:Nat} {l:List AV} {vs:List Value} {y:r.D} {QS:List Bx} {d':Nat},C9 E w vw bx G→FH bx vw→1≤d→
  iz E w vw l vs→cellsIn d r l bx=some (y,QS,d')→1≤d'∧d'≤d∧ ∃E' F,G2 E w vw bx G E' QS F∧Ow w E'.S (d'-1) r vs y F
 | .unit,E,bx,G,d,[],[],y,QS,d',h,hw,hd,_,e=>by
  simp only[cellsIn,AMF,APv]at e;obtain⟨_,rfl,rfl⟩:=e;exact⟨hd,AQW _,E,[],G2.refl h,by simp only[Ow];simp_all⟩
 | .cons c r,E,bx,G,d,x::l,v::vs,y,QS,d',h,hw,hd,hv,e=>by
  simp only[cellsIn,AMQ,AMI,APv]at e;obtain⟨⟨y1,ji,d1⟩,e1,⟨y2,aM,d2⟩,e2,rfl,rfl,rfl⟩:=e;dsimp only at e2⊢;obtain⟨a1,a2,E1,F1,k1,o1⟩:=bJ h hw hd hv.1 e1;have v7:=k1.le.keep (w:=w) (vw:=vw) h.st;obtain⟨b1,b2,E2,F2,k2,o2⟩:=ZR (G:=F1++G) k1.boxes (hw.p_ k1) a1 (hv.2.imp fun _ _ h=>GH v7 h) e2;obtain⟨A,W,hp,o1'⟩:=Jm (d:=d'-1) (by omega) o1;have hB:=k2.boxes.perm (G':=(F2++A)++W++G) (by
   grind)
  obtain⟨hle,Xg⟩:=hB.share;refine⟨b1,ASs b2 a2,_,A++F2,⟨(k1.le.trans k2.le).trans hle,k2.len.trans k1.len,fun b B hb=>(k2.within b B hb).elim .inl (k1.within b B),Xg.perm (AU4 _ List.perm_append_comm)⟩,?_⟩;simp only[Ow];refine⟨v,vs,A,F2,rfl,rfl,?_,?_⟩
  ·refine EX (S:=fun b=>E1.S b∨b∈W) ?_ (fun _ _=>rfl) (fun _ _=>rfl) o1'
   intro c hc;exact hc.elim (fun h=> .inl (k2.le.S c h)) .inr
  ·refine EX (S:=E2.S) ?_ (fun _ _=>rfl) (fun _ _=>rfl) o2
   simp_all
 | .unit,_,_,_,_,_::_,_,_,_,_,_,_,_,_,e=>by simp[cellsIn]at e
 | .unit,_,_,_,_,[],_::_,_,_,_,_,_,_,hv,_=>hv.elim
 | .cons _ _,_,_,_,_,[],_,_,_,_,_,_,_,_,e=>by simp[cellsIn]at e
 | .cons _ _,_,_,_,_,_::_,[],_,_,_,_,_,_,hv,_=>hv.elim
 | .int _,_,_,_,_,_,_,_,_,_,_,_,_,_,e=>by simp[cellsIn]at e
 | .bool,_,_,_,_,_,_,_,_,_,_,_,_,_,e=>by simp[cellsIn]at e
 | .str,_,_,_,_,_,_,_,_,_,_,_,_,_,e=>by simp[cellsIn]at e
 | .sl _,_,_,_,_,_,_,_,_,_,_,_,_,_,e=>by simp[cellsIn]at e
theorem vE{E:Env}{w:World}{vw:List Bx}{x:AV}{v:Value}(h:VR E w vw x v)(hk:x.known=true):v.oneCell' =true∧v.cells= #[v]:=by
 have aux:∀{v:Value},isSlice v=true→v.oneCell' =true∧v.cells= #[v]:=by intro v h;cases v<;>simp_all[isSlice,Value.oneCell',Value.cells]
 have Aa9:∀{v:Value},cL v=true→v.oneCell' =true∧v.cells= #[v]:=by intro v h;cases v<;>simp_all[cL,Value.oneCell',Value.cells]
 cases x with
 |v t y=>
  obtain⟨hs,hr⟩:=h;cases t<;>simp[Ty.scalar]at hs<;>simp only[Rd,AQj,ATG]at hr<;>subst hr<;>exact⟨rfl,rfl⟩
 |sl s r y=>
  simp only[VR,Rd]at h;obtain⟨a,cap,h,_⟩:=h;simp only[AQj,ATG]at h;subst h;exact⟨rfl,rfl⟩
 |nil=>simp only[VR]at h;subst h;exact⟨rfl,rfl⟩
 |ref b p=>exact aux h.1
 |win b p off n=>exact aux h.1
 |IC b j=>rw[h.2];exact⟨rfl,rfl⟩
 |JQ b p i sz j=>exact Aa9 h.1
 |PE s r y j=>obtain⟨bb,o,cs,rfl,_⟩:=h;exact⟨rfl,rfl⟩
 |fn f J8=>rw[h.2];exact⟨rfl,rfl⟩
 |qt f rows=>obtain⟨ps,rfl,_⟩:=h;exact⟨rfl,rfl⟩
 |yW=>simp only[VR]at h;subst h;exact⟨rfl,rfl⟩
 |undef=>simp[AV.known]at hk
theorem zw{E:Env}{w:World}{vw:List Bx}:∀{l:List AV} {vs:List Value},iz E w vw l vs→l.all AV.known=true→ ∀v∈vs,v.oneCell' =true
 |[],[],_,_=>by simp
 |x::l,v::vs,h,hk=>by
  simp only[ATa,AML]at hk;intro u hu;rcases ANv.1 hu with rfl|hu
  ·exact(vE h.1 hk.1).1
  ·exact zw h.2 hk.2 u hu
theorem pR{E:Env}{w:World}{vw:List Bx}{x:XV}{v:Value}(h:XR E w vw x v)(hk:x.cells.all AV.known=true)(hn:x.cells≠[]):iz E w vw x.cells v.cells.toList∧ ∀u∈v.cells.toList,u.oneCell' =true:=by
 cases x with
 |c x=>
  have h':VR E w vw x v:=h;obtain⟨h1,h2⟩:=vE h' (by grind[XV.cells]);rw[h2];exact⟨⟨h',trivial⟩,by simp_all⟩
 |agg l=>
  obtain⟨vs,rfl,VC⟩:=h;exact⟨VC,zw VC hk⟩
 |MH l=>simp[XV.cells]at hn
theorem wN{w:World}{vw:List Bx}{r:Ty}{E:Env}{bx:List Bx}{G:AA4}{d:Nat}{x:XV}{v:Value}{y:r.D}{QS:List Bx}{d':Nat}(h:C9 E w vw bx G)(hw:FH bx vw)(hd:1≤d)
  (hv:XR E w vw x v) (e:AEk d r x bx=some (y,QS,d')):1≤d'∧d'≤d∧ ∃E' F,G2 E w vw bx G E' QS F∧Ow w E'.S (d'-1) r v.cells.toList y F:=by
 unfold AEk at e;split at e
 ·rename_i l
  obtain⟨vs,rfl,VC⟩:=hv;exact ZR h hw hd VC e
 ·rename_i x
  have X5:VR E w vw x v:=hv;have hk:x.known=true:=by grind[AV.known,dX]
  rw[(vE X5 hk).2];exact bJ h hw hd X5 e
 simp_all
end Go.Fw
end
section
namespace Go.Fw
def Env.aY(E:Env)(n:Nat)(h:Value):Env:={ E with Hl:=fun k=>if k=n then h else E.Hl k }
def Env.eE(E:Env)(n b:Nat):Env:={ E with Hk:=fun k=>if k=n then b else E.Hk k }
theorem gp{E E1 E':Env}{w w':World}{vw ji QS:List Bx}{F:AA4}(k:G2 E w vw vw [] E1 ji F)(st:∀c,E.S c→E.T c)(hlen:vw.length≤QS.length)
  (vX:∀b B,b<vw.length→QS[b]? =some B→ji[b]? =some B) (AFX:∀b,b<vw.length→E'.Hk b=E1.Hk b) (mv:∀b,b<vw.length→E'.Hl b=E1.Hl b) (hT:E'.T=E1.T) (hS:E'.S=E1.S)
  (hw:∀c,c<w.heap.size→c∉F→w'.heap[c]? =w.heap[c]?):SW E w vw E' w' QS:=by
 have hB:=k.boxes;obtain⟨Fs,⟨h1,h2⟩,h3⟩:=hB;simp only[AM5]at h3;have x_:∀c,E1.T c→w'.heap[c]? =w.heap[c]?:=fun c hc=>hw c (h3.cS c hc) fun hf=>h3.free c (by simp[hf]) hc
 refine⟨hlen,fun b hb=>by rw[AFX b hb,k.le.Hk],fun c hc=>by rw[hT];exact k.le.T c hc,fun c hc=>by rw[hS];exact k.le.S c hc,st,fun c hc=>x_ c (k.le.T c hc),fun b d r rows hb e=> ?_⟩;have e1:=vX b _ hb e;rcases k.within b _ e1 with e2|e2
 ·cases e2
 ·refine⟨d,rows,e2,fun p hp q ys hg=>⟨hp,⟨ys,hg,rfl⟩,fun h' hh=> ?_⟩⟩
  have hF:Fs[b]? =some (Fs[b]'(by grind)):=AL5 _;obtain⟨hd,ho⟩:=h2 b _ _ e1 hF;rw[mv b hb];rw[←k.le.Hl]at hh;refine uE ho (fun c hc=>x_ c (h3.st c hc)) (fun c hc=> ?_) hp hg hh;have PY:c∈Fs.flatten:=ASw.2 ⟨_,ANi hF,hc⟩;exact hw c (h3.lt c (by simp[PY])) fun hf=>(ANN.1 h3.nodup).2.2 c PY c hf rfl
structure Grown (w w':World):Prop where
 os:w'.os=w.os
 tape:w'.tape=w.tape
 output:w'.output=w.output
 size:w.heap.size≤w'.heap.size
theorem TA{E E1:Env}{σ:St}{a:Act}{w w':World}{ji:List Bx}{F F':AA4}(h:Rel E σ a w)(k:G2 E w σ.bx σ.bx [] E1 ji F){v:Value}{d:Nat}{r:Ty}{rows:List r.D}(hd:1≤d)
  (ho:Ow w' E1.S d (.sl r) [v] rows F') (hF':∀c∈F',c∈F∨w.heap.size≤c) (nd:F'.Nodup) (Kg:∀c∈F',c<w'.heap.size) (hw:∀c,c<w.heap.size→c∉F→w'.heap[c]? =w.heap[c]?) (g:Grown w w'):
  let E':=E1.aY ji.length v
  Rel E' { σ with bx:=ji++[.sl d r rows] } a w'∧Q5 [] E σ.bx w E' (ji++[.sl d r rows]) w'∧XR E' w' (ji++[.sl d r rows]) (.c (.ref ji.length [])) v:=by
 intro E';have st:=h.bx.st;have hn:=k.len;have keep:SW E w σ.bx E' w' (ji++[.sl d r rows]):=gp k st (by simp[hn]) (fun b B hb e=>by
   grind) (fun b _=>rfl) (fun b hb=>by grind[Env.aY]) rfl rfl hw
 have v7:SW E1 w σ.bx E' w' (ji++[.sl d r rows]):=by
  have k':G2 E1 w σ.bx σ.bx [] E1 ji F:=⟨Le.refl _,k.len,k.within,k.boxes⟩;exact gp k' k.boxes.st (by simp[hn]) (fun b B hb e=>by
   grind) (fun b _=>rfl) (fun b hb=>by grind[Env.aY]) rfl rfl hw
 obtain⟨Fs,⟨h1,h2⟩,h3⟩:=k.boxes;simp only[AM5]at h3;have x_:∀c,E1.T c→w'.heap[c]? =w.heap[c]?:=fun c hc=>hw c (h3.cS c hc) fun hf=>h3.free c (by simp[hf]) hc
 have hF0:∀c∈Fs.flatten,w'.heap[c]? =w.heap[c]?:=fun c hc=>hw c (h3.lt c (by simp[hc])) fun hf=>(ANN.1 h3.nodup).2.2 c hc c hf rfl
 refine⟨⟨h.NT,h.tm.imp fun _ _ hx=>Og keep hx,?_⟩,?_,?_⟩
 ·refine⟨Fs++[F'],⟨by simp[h1],fun n B G hB hG=> ?_⟩,?_⟩
  ·by_cases vd:n<ji.length
   ·rw[ANd vd]at hB
    rw[ANd (by omega)]at hG;have:=h2 n B G hB hG;have hGw:∀c∈G,w'.heap[c]? =w.heap[c]?:=fun c hc=>hF0 c (ASw.2 ⟨G,ANi hG,hc⟩)
    cases B with
    |mem cs=>
     obtain⟨rfl,arr,ty,fr,a1,a2,a3⟩:=this;exact⟨rfl,arr,ty,fr,(hGw (E1.Hk n) (by simp)).trans a1,a2,a3.imp fun _ _ hv=>GH v7 hv⟩
    |sl d0 r0 Rz=>
     refine⟨this.1,?_⟩;have e0:E'.Hl n=E1.Hl n:=by grind[Env.aY]
     rw[e0];exact EX (fun _ hc=>hc) (fun c hc=>x_ c (h3.st c hc)) hGw this.2
    |dead=>exact this
   ·have zU:=(AMK.1 hB).1
    simp at zU;obtain rfl:n=ji.length:=by omega
    rw[ANr (by omega)]at hB hG;simp[h1]at hB hG;subst hB hG;refine⟨hd,?_⟩;grind[Env.aY]
  ·simp only[ATo,AUJ,AWd,AM5]
   have nd0:=ANN.1 h3.nodup;refine⟨ANN.2 ⟨nd0.1,nd,fun x hx y hy e=> ?_⟩,fun c hc ht=> ?_,fun c hc=> ?_,h3.st,fun c hc=>ATB (h3.cS c hc) g.size⟩
   ·grind
   ·rcases AOs.1 hc with hc|hc
    ·exact h3.free c (by simp[hc]) ht
    ·rcases hF' c hc with h|h
     ·exact h3.free c (by simp[h]) ht
     ·have:=h3.cS c ht;omega
   ·rcases AOs.1 hc with hc|hc
    ·exact ATB (h3.lt c (by simp[hc])) g.size
    simp_all
 ·refine⟨⟨k.le.T,k.le.S,k.le.Tof,k.le.Sof,fun c hc=>x_ c (k.le.T c hc),g.os,g.tape,g.output,g.size⟩,by simp[hn],fun b hb=>⟨by show E1.Hk b=_;rw[k.le.Hk],?_⟩,fun b hb=> ?_,fun n B B' _ hB TL qw=> ?_⟩
  ·have:E'.Hl b=E1.Hl b:=by grind[Env.aY]
   rw[this,k.le.Hl]
  ·have hbl:=(AMK.1 hb).1
   rw[ANd (by omega)];obtain⟨B,hB⟩:∃B,ji[b]? =some B:=⟨_,AL5 (by omega)⟩;rcases k.within b B hB with e|e
   all_goals simp_all
  ·have vd:=(AMK.1 hB).1
   rw[ANd (by omega)]at TL;rcases k.within n B' TL with e|e
   ·simp_all
   rw[hB]at e;cases e;refine⟨Ux.refl qw,fun c hc=> ?_⟩;have hF:Fs[n]? =some (Fs[n]'(by omega)):=AL5 _;have hR:=h2 n B _ TL hF;have Zb:xq E1 w n B c:=by
    cases B with
    |mem cs=>simp only[xq]at hc⊢;rw[k.le.Hk];omega
    |sl d r rows=>simp only[xq]at hc⊢;rw[k.le.Hl];omega
    |dead=>exact hc
   rcases eR hR Zb with hs|hs
   ·exact x_ c (h3.st c hs)
   grind[List.mem_flatten,List.mem_of_getElem?]
 ·have e0:E'.Hl ji.length=v:=by simp[E',Env.aY]
  refine⟨?_,?_⟩
  ·have:=Wo ho
   simp only[Rd]at this;obtain⟨_,_,e,_⟩:=this;simp only[AQj,ATG]at e;rw[e];rfl
  ·have:(ji++[Bx.sl d r rows])[ji.length]? =some (.sl d r rows):=by simp
   rw[this];exact⟨by simp[DA],⟨_,rfl⟩,by rw[e0,C8]⟩
theorem oH{E:Env}{σ:St}{a:Act}{w:World}(h:Rel E σ a w){cs:List AV}{arr:Array Value}(ty:TypeId)(hv:iz E w σ.bx cs arr.toList):
  let E':=E.eE σ.bx.length w.heap.size
  let w':=w.alloc (.cells arr ty)
  Rel E' (σ.new (.mem cs)) a w'∧Q5 [] E σ.bx w E' (σ.new (.mem cs)).bx w'∧XR E' w' (σ.new (.mem cs)).bx (.c (.IC σ.bx.length 0)) (.pointer (some ⟨w.heap.size,0,none⟩)):=by
 intro E' w';have st:=h.bx.st;have hw:∀c,c<w.heap.size→c∉([]:AA4)→w'.heap[c]? =w.heap[c]?:=fun c hc _=>by
  show(w.heap.push (.cells arr ty))[c]? =_
  grind
 have hB0:=h.bx;have keep:SW E w σ.bx E' w' (σ.bx++[.mem cs]):=gp (G2.refl hB0) st (by simp) (fun b B hb e=>by
   grind) (fun b hb=>by grind[Env.eE]) (fun b _=>rfl) rfl rfl hw
 obtain⟨Fs,⟨h1,h2⟩,h3⟩:=h.bx;simp only[AM5]at h3;have new:w'.heap[w.heap.size]? =some (.cells arr ty):=by
  show(w.heap.push (.cells arr ty))[w.heap.size]? =_
  simp
 refine⟨⟨h.NT,h.tm.imp fun _ _ hx=>Og keep hx,?_⟩,?_,?_⟩
 ·refine⟨Fs++[[w.heap.size]],⟨by simp[St.new,h1],fun n B G hB hG=> ?_⟩,?_⟩
  ·simp only[St.new]at hB
   by_cases vd:n<σ.bx.length
   ·rw[ANd vd]at hB
    rw[ANd (by omega)]at hG;have:=h2 n B G hB hG;have hGw:∀c∈G,w'.heap[c]? =w.heap[c]?:=fun c hc=>hw c (h3.lt c (by simp;grind)) (by simp)
    have eb:E'.Hk n=E.Hk n:=by grind[Env.eE]
    cases B with
    |mem cs0=>
     obtain⟨rfl,arr0,ty0,fr,a1,a2,a3⟩:=this;refine⟨by rw[eb],arr0,ty0,fr,?_,a2,a3.imp fun _ _ hv=>GH keep hv⟩;simp_all
    |sl d0 r0 Rz=>exact⟨this.1,EX (fun _ hc=>hc) (fun c hc=>hw c (h3.cS c (st c hc)) (by simp)) hGw this.2⟩
    |dead=>exact this
   ·have zU:=(AMK.1 hB).1
    simp at zU;obtain rfl:n=σ.bx.length:=by omega
    rw[ANr (by omega)]at hB hG;simp[h1]at hB hG;subst hB hG;have eb:E'.Hk σ.bx.length=w.heap.size:=by simp[E',Env.eE]
    refine⟨by rw[eb],arr,ty,(0,0),by simp_all,fun i _ h=>by omega,hv.imp fun _ _ hv=>GH keep hv⟩
  ·simp only[ATo,AUJ,AWd,AM5]
   refine⟨ANN.2 ⟨h3.nodup,by simp,fun x hx y hy e=> ?_⟩,fun c hc ht=> ?_,fun c hc=> ?_,h3.st,fun c hc=> ?_⟩
   ·subst e
    simp at hy;have:=h3.lt x hx;omega
   ·rcases AOs.1 hc with hc|hc
    ·exact h3.free c hc ht
    ·simp at hc;have:=h3.cS c ht;omega
   ·rcases AOs.1 hc with hc|hc
    ·have:=h3.lt c hc;grind
    grind
   ·have:=h3.cS c hc;grind
 ·refine⟨⟨fun _ h=>h,fun _ h=>h,fun _ h=> .inl h,fun _ h=> .inl h,fun c hc=>hw c (h3.cS c hc) (by simp),rfl,rfl,rfl,by simp[w']⟩,by simp[St.new],fun b hb=>⟨?_,rfl⟩,fun b hb=> ?_,fun n B B' _ hB TL qw=> ?_⟩
  ·grind[Env.eE]
  ·grind[List.getElem?_eq_some_iff,St.new,List.getElem?_append_left]
  ·have vd:=(AMK.1 hB).1
   simp only[St.new]at TL;rw[ANd vd,hB]at TL;cases TL;refine⟨Ux.refl qw,fun c hc=> ?_⟩;have hF:Fs[n]? =some (Fs[n]'(by omega)):=AL5 _;rcases eR (h2 n B _ hB hF) hc with hs|hs
   ·exact hw c (h3.cS c (st c hs)) (by simp)
   ·exact hw c (h3.lt c (ASw.2 ⟨_,ANi hF,hs⟩)) (by simp)
 ·refine⟨by simp[St.new],?_⟩
  simp[E',Env.eE]
end Go.Fw
end
section
namespace Go.Fw
theorem Gp:∀r:Ty,(En r).length=r.n
 | .cons c r=>by simp[En,Ty.n,Gp r]
 | .unit=>rfl
 | .int _=>rfl
 | .bool=>rfl
 | .str=>rfl
 | .sl _=>rfl
theorem aK{E:Env}{w:World}{vw:List Bx}(t:Ty):VR E w vw (zj t) (zv t):=by
 cases t<;>first
  |exact VR.int _ _
  |exact VR.bool _
  |exact VR.str _
  |rfl
  |trivial
theorem Yv{E:Env}{w:World}{vw:List Bx}:∀r:Ty,iz E w vw (ay r) (En r)
 | .cons c r=>⟨aK c,Yv r⟩
 | .unit=>trivial
 | .int k=>⟨aK (.int k),trivial⟩
 | .bool=>⟨aK .bool,trivial⟩
 | .str=>⟨aK .str,trivial⟩
 | .sl r=>⟨aK (.sl r),trivial⟩
theorem d_{w:World}{S:Nat→Prop}{d:Nat}:∀{r:Ty},r.vF=true→Ow w S d r (En r) r.z []
 | .cons c r,h=>by
  simp only[Ty.vF,AML]at h;simp only[Ow,En];refine⟨_,_,[],[],rfl,rfl,?_,d_ h.2⟩;cases c with
  |sl q=>exact qb
  |int k=>simp[Ow,zv,Ty.z]
  |bool=>simp[Ow,zv,Ty.z]
  |str=>simp[Ow,zv,Ty.z]
  |unit=>simp[Ty.cell]at h
  |cons _ _=>simp[Ty.cell]at h
 | .unit,_=>by simp[Ow,En]
 | .int k,_=>by simp[Ow,En,zv,Ty.z]
 | .bool,_=>by simp[Ow,En,zv,Ty.z]
 | .str,_=>by simp[Ow,En,zv,Ty.z]
 | .sl q,_=>qb
theorem Xy{n:Nat}:∀{css:List (List Value)} {ex:List Value} {i j:Nat} {cs:List Value},(∀c∈css,c.length=n)→css[i]? =some cs→j<n→(css.flatten++ex)[i*n+j]? =cs[j]?
 |[],_,_,_,_,_,h,_=>by simp at h
 |c::css,ex,0,j,cs,hl,h,hj=>by
  grind
 |c::css,ex,i+1,j,cs,hl,h,hj=>by
  have hc:=hl c (by simp);have ih:=Xy (css:=css) (ex:=ex) (i:=i) (j:=j) (cs:=cs) (fun c' Zb=>hl c' (AXV _ Zb)) (by simp_all) hj;simp only[AUJ,AM8];rw[ANr (by grind),←ih];congr 1;grind
theorem mS{w:World}{b:Nat}{arr:Array Value}{ty:TypeId}{fr:AC7}(hb:w.heap[b]? =some (.cells arr ty fr)){n:Nat}{css:List (List Value)}{ex:List Value}(ha:arr.toList=css.flatten++ex)
  (hl:∀c∈css,c.length=n) {i:Nat} {cs:List Value} (h:css[i]? =some cs):Bc w b (i*n) cs:=by
 intro j v hj;have hjn:j<n:=by
  grind
 simp only[World.cell?,hb,ATN,AMO,AOR];rw[←Array.getElem?_toList,ha,Xy hl h hjn,hj]
theorem cY{w:World}{S:Nat→Prop}{d b cap:Nat}{r:Ty}{rows:List r.D}{arr:Array Value}{ty:TypeId}{fr:AC7}(hb:w.heap[b]? =some (.cells arr ty fr)){css:List (List Value)}{ex:List Value}
  (ha:arr.toList=css.flatten++ex) (hc:css.length=rows.length) (zT:rows.length≤cap) (PC:cap*r.n≤arr.size) (hu:vy fr (arr.size+mk r)) {Fs:List AA4} (hF:Fs.length=rows.length)
  (cK:∀(i:Nat) cs y G,css[i]? =some cs→rows[i]? =some y→Fs[i]? =some G→Ow w S d r cs y G):
  Ow w S (d+1) (.sl r) [.slice (some ⟨b,0,none⟩) rows.length cap] rows (b::Fs.flatten):=by
 have hl:∀c∈css,c.length=r.n:=by
  intro c Zb;obtain⟨i,hi,rfl⟩:=AQa Zb;exact XT (cK i _ _ _ (AL5 hi) (AL5 (by omega)) (AL5 (by omega)))
 simp only[Ow];refine⟨_,cap,rfl,zT,.inr ⟨b,0,arr,ty,fr,Fs,rfl,hb,by omega,hu,rfl,hF,fun i y G hy hG=> ?_⟩⟩;have hi:i<css.length:=by
  grind
 refine⟨css[i],hl _ (AMh hi),?_,cK i _ y G (AL5 hi) hy hG⟩;rw[ATU];grind[mS,List.getElem?_eq_getElem]
theorem WM(n:Nat):vy (0,0) n:=fun i _ h=>by omega
theorem Ih{w:World}{o:Obj}{c:Nat}(h:c<w.heap.size):(w.heap.push o)[c]? =w.heap[c]?:=by
 grind
section
variable{Y:Type} {P:Program} {T:JY} (hT:Eo P T) {o:Oper} {E:Env} {σ:St} {a:Act} {w:World} {k:K Y} {y:Y}
theorem AD_(h:Rel E σ a w){t:TypeId}{x:Operand}(ho:o.op= .box t x)(hk:(σ.ev x).cells.all AV.known=true)(hn:(σ.ev x).cells≠[])(e:k (.c (.IC σ.bx.length 0)) (σ.new (.mem (σ.ev x).cells))=some y):
  LZ P o E σ a w k y:=by
 obtain⟨h1,h2⟩:=pR (h.ev x) hk hn;obtain⟨r1,r2,r3⟩:=oH h t h1;refine⟨_,_,_,_,_,.inl ?_,r1,r3,r2.any,rfl,e⟩;simp only[execOp,ho,Instr.box,newVar,newRow,Sem.run_bind,run_newObj,Result.andThen_ok,Sem.run_pure];rfl
include hT
theorem row_zero{t:Nat}{r:Ty}(e:T.jT t=some r):∃i z,P.info? t=some i∧i.zero=some z∧z.cells.toList=En r∧r.vF=true:=by
 unfold JY.jT at e;split at e
 ·rename_i ti Um
  obtain⟨i,h1,_,_,h2⟩:=(hT t ti Um).info;simp_all
 simp_all
theorem yU(h:Rel E σ a w){t:TypeId}(ho:o.op= .alloc t){r:Ty}(hr:T.jT t=some r)(e:k (.c (.IC σ.bx.length 0)) (σ.new (.mem (ay r)))=some y):LZ P o E σ a w k y:=by
 obtain⟨i,z,h1,h2,h3,_⟩:=row_zero hT hr;obtain⟨r1,r2,r3⟩:=oH (arr:=z.cells) h t (by rw[h3];exact Yv r);refine⟨_,_,_,_,_,.inl ?_,r1,r3,r2.any,rfl,e⟩;simp only[execOp,ho,Instr.alloc,zeroValue,typeInfo,newVar,newRow,Sem.run_bind,run_program,Result.andThen_ok,h1,h2,run_newObj,Sem.run_pure];rfl
end
end Go.Fw
end
section
namespace Go.Fw
def FE(arr:Array Value):Nat→List Value→Array Value
 |_,[]=>arr
 |o,c::l=>FE (arr.setIfInBounds o c) (o+1) l
theorem Fa:∀(l:List Value) (o:Nat) (arr:Array Value),(FE arr o l).size=arr.size
 |[],_,_=>rfl
 |c::l,o,arr=>by simp[FE,Fa l]
theorem qR(off:Nat):∀(l:List Value) (k:Nat) (arr:Array Value),(l.zipIdx k).foldl (fun cs (q:Value×Nat)=>cs.setIfInBounds (off+q.2) q.1) arr=FE arr (off+k) l
 |[],_,_=>rfl
 |c::l,k,arr=>by
  simp only[List.zipIdx_cons,List.foldl_cons,FE];rw[qR off l (k+1)];rfl
theorem WS{E:Env}{w:World}{vw:List Bx}:∀{xs:List AV} {vs:List Value} {cs dM:List AV} {arr:Array Value} {o:Nat},iz E w vw cs arr.toList→iz E w vw xs vs→Wx cs o xs=some dM→
  iz E w vw dM (FE arr o vs).toList∧o+xs.length≤cs.length∨(xs=[]∧dM=cs)
 |[],[],cs,dM,arr,o,h,_,e=>by simp only[Wx,AMF]at e;simp_all
 |x::xs,v::vs,cs,dM,arr,o,h,hx,e=>by
  simp only[Wx]at e;split at e
  case isFalse=>cases e
  rename_i ho;have h1:iz E w vw (cs.set o x) (arr.setIfInBounds o v).toList:=by
   rw[Array.toList_setIfInBounds];exact CT.set h hx.1
  rcases WS h1 hx.2 e with⟨h2,h3⟩|⟨rfl,rfl⟩
  ·refine .inl ⟨h2,?_⟩
   grind
  ·cases vs with
   |nil=>exact .inl ⟨h1,by grind⟩
   |cons _ _=>exact hx.2.elim
 |[],_::_,_,_,_,_,_,hx,_=>hx.elim
 |_::_,[],_,_,_,_,_,hx,_=>hx.elim
section
variable{Y:Type} {P:Program} {T:JY} (hT:Eo P T) {o:Oper} {E:Env} {σ:St} {a:Act} {w:World} {k:K Y} {y:Y}
def yP(E:Env)(w:World)(vw:List Bx)(l:List (Nat×XV))(m:List (Nat×Value)):Prop:=CT (fun x v=>x.1=v.1∧XR E w vw x.2 v.2) l m
theorem oN(h:Rel E σ a w)(ps:Array (Nat×Operand)):yP E w σ.bx (ps.toList.map fun q=>(q.1,σ.ev q.2)) (ps.map fun(i,x)=>(i,a.eval x)).toList:=by
 rw[Array.toList_map]
 generalize ps.toList=l
 induction l with
 |nil=>trivial
 |cons q l ih=>exact⟨⟨rfl,h.ev q.2⟩,ih⟩
theorem sZ{place:Nat→Option AC7}{i off size:Nat}(hp:place i=some (off,size)){cells:Array Value}{v:Value}{rest:List (Nat×Value)}(h1:v.cells.size=size)(h2:off+v.cells.size≤cells.size):
  Instr.fill place cells ((i,v)::rest)=Instr.fill place (FE cells off v.cells.toList) rest:=by
 have e:v.cells.zipIdx.foldl (fun cs (q:Value×Nat)=>cs.setIfInBounds (off+q.2) q.1) cells=FE cells off v.cells.toList:=by
  rw[←Array.foldl_toList];have:(v.cells.zipIdx).toList=v.cells.toList.zipIdx:=by simp
  rw[this];exact qR off v.cells.toList 0 cells
 conv=>lhs;unfold Instr.fill
 grind
theorem ph{α β:Type}{f:α→Option β}{g:α→β}:∀{l:List α},(∀x∈l,f x=some (g x))→l.mapM f=some (l.map g)
 |[],_=>rfl
 |x::l,h=>by
  simp only[AXf,h x (by simp),ph (l:=l) (g:=g) (fun y hy=>h y (by simp[hy]))];rfl
include hT
theorem aV{fs:List AC7}{vw:List Bx}:∀{parts:List (Nat×XV)} {vals:List (Nat×Value)} {cs dM:List AV} {arr:Array Value},yP E w vw parts vals→iz E w vw cs arr.toList→fk T fs cs parts=some dM→
  ∃KI:Array Value,Instr.fill (fun i=>(fs[i]?).bind fun q=>((P.info? q.2).map fun i=>(q.1,i.size))) arr vals=some KI∧iz E w vw dM KI.toList
 |[],[],cs,dM,arr,_,h,e=>by
  simp only[fk,AMF]at e;subst e;exact⟨arr,rfl,h⟩
 |(i,x)::ps,(j,v)::vs,cs,dM,arr,hp,h,e=>by
  obtain⟨⟨zF,hx⟩,hp⟩:=hp;simp only at zF hx;subst zF;simp only[fk]at e;split at e
  case h_2=>cases e
  rename_i off u hf;split at e
  case h_2=>cases e
  rename_i ti Um;split at e
  case isFalse=>cases e
  rename_i hc;obtain⟨c1,c2,c3⟩:=hc;simp only[AMQ]at e;obtain⟨cs1,e1,e2⟩:=e;have cF:x.cells≠[]:=by grind
  obtain⟨x1,x2⟩:=pR hx c3 cF;rcases WS h x1 e1 with⟨s1,s2⟩|⟨s1,_⟩
  ·have PC:v.cells.size=ti.size:=by
    have:=x1.len;simp_all
   have hlen:=h.len;obtain⟨KI,f1,f2⟩:=aV hp s1 e2;refine⟨KI,?_,f2⟩;have AYx:(fun i=>(fs[i]?).bind fun q=>((P.info? q.2).map fun i=>(q.1,i.size))) i=some (off,ti.size):=by
    have:=Eo.size hT Um;simp_all
   grind[sZ]
  simp_all
 |[],_::_,_,_,_,hp,_,_=>hp.elim
 |_::_,[],_,_,_,hp,_,_=>hp.elim
theorem zG(h:Rel E σ a w){t:TypeId}{ps:Array (Nat×Operand)}(ho:o.op= .build t ps){s b:Nat}{fs:List AC7}{rw:Option Ty}(Um:T.get t=some ⟨s,b,.st fs,rw⟩){r:Ty}(hr:T.jT t=some r)
  {cs:List AV} (hb:fk T fs (ay r) (ps.toList.map fun q=>(q.1,σ.ev q.2))=some cs) (e:k (.agg cs) σ=some y):LZ P o E σ a w k y:=by
 obtain⟨i,z,h1,h2,h3,_⟩:=row_zero hT hr;obtain⟨fields,hu,hfs,PC⟩:=ALR hT Um;obtain⟨KI,f1,f2⟩:=aV hT (oN h ps) (arr:=z.cells) (by grind[Yv]) hb;refine LZ.same h (v:= .agg KI) (x:= .agg cs) ?_ ⟨KI,rfl,f2⟩ e
 have hb:P.built t (ps.map fun(i,x)=>(i,a.eval x)).toList=some KI:=by
  unfold Program.built;simp only[h1,hu,h2];have hm:fields.toList.mapM (fun f=>(P.info? f.type).map fun i=>(f.offset,i.size))=some (fields.toList.map fun f=>(f.offset,((P.info? f.type).map (·.size)).getD 0)):=by
   grind[ph]
  simp only[hm];rw[←f1];congr 1;funext n;subst hfs;simp only[List.getElem?_toArray,ASJ];cases hn:fields.toList[n]? with
  |none=>simp
  |some f=>
   obtain⟨i',Dd,_⟩:=PC f (ANi hn);simp[Dd]
 grind[run_build,execOp,Sem.run_bind,Result.andThen_ok,Sem.run_pure]
end
end Go.Fw
end
section
namespace Go.Fw
theorem wrap_small{n:Int}(h0:0≤n)(h1:n≤(Dr:Int)):IntKind.i64.wrap n=n:=by
 simp only[Dr]at h1;unfold IntKind.wrap;simp only[IntKind.bits,IntKind.signed];grind
theorem G3{m:Nat}{zl:List Value}:((List.replicate m zl).flatten).length=m*zl.length:=by
 simp_all
theorem NC{zl:List Value}:∀{m i:Nat},i<m*zl.length→((List.replicate m zl).flatten)[i]? =zl[i%zl.length]?
 |0,i,h=>by omega
 |m+1,i,h=>by
  simp only[List.replicate_succ,AUJ];by_cases hi:i<zl.length
  ·rw[ANd hi,Nat.mod_eq_of_lt hi]
  ·have Dd:zl.length≤i:=by omega
   rw[ANr Dd,NC (by grind),←Nat.mod_eq_sub_mod Dd]
theorem V6{zero:Array Value}{zl:List Value}(hz:zero.toList=zl)(m:Nat)(h0:zl≠[]):((Array.range (m*zl.length)).map (fun i=>zero[i%zero.size]!)).toList=(List.replicate m zl).flatten:=by
 have hs:zero.size=zl.length:=by grind
 have AH9:0<zl.length:=AXX.2 h0;apply AVx;intro i;by_cases hi:i<m*zl.length
 ·grind[NC,Nat.mod_lt,Array.toList_map,Array.toList_range,List.getElem?_range,List.getElem?_eq_getElem]
 simp_all
section
variable{Y:Type} {P:Program} {T:JY} (hT:Eo P T) {o:Oper} {E:Env} {σ:St} {a:Act} {w:World} {k:K Y} {y:Y}
include hT
theorem WQ{e:Nat}{ti:TI}{r:Ty}(he:T.get e=some ti)(hr:ti.row=some r):∃i z,P.info? e=some i∧i.size=ti.size∧i.bytes=ti.bytes∧i.zero=some z∧z.cells.toList=En r∧r.vF=true:=by
 obtain⟨i,h1,h2,h3,h4⟩:=(hT e ti he).info;simp_all
theorem ACG(h:Rel E σ a w){t:TypeId}{l c:Operand}(ho:o.op= .makeSlice t l c)(e:tC T t σ (σ.ev l) (σ.ev c) k=some y):LZ P o E σ a w k y:=by
 unfold tC at e;split at e
 case h_2=>cases e
 rename_i el n m hd hl hc;split at e
 case h_2=>cases e
 rename_i r hr;split at e
 case isFalse=>cases e
 rename_i T7;split at e
 case isFalse=>cases e
 rename_i hb;obtain⟨b0,b1,b2⟩:=hb;obtain⟨el',ti,hu,Um,hs,hby,hrow⟩:=J6 hT T7;obtain⟨i,z,i1,i2,i3,i4,i5,hg⟩:=WQ hT Um hrow;obtain⟨κ1,e1⟩:=IG hl (h.ev l);obtain⟨κ2,e2⟩:=IG hc (h.ev c);have w1:=wrap_small b0 (by omega);have w2:=wrap_small (n:=m) (by omega) b2
 let arr:Array Value:=(Array.range (m.toNat*r.n)).map (fun j=>(if m.toNat*r.n=0 then #[]else z.cells)[j%(if m.toNat*r.n=0 then(#[]:Array Value)else z.cells).size]!)
 have cR:arr.toList=(List.replicate n.toNat (En r)).flatten++(List.replicate (m.toNat-n.toNat) (En r)).flatten:=by
  have hz:=Gp r;have split:(List.replicate n.toNat (En r)).flatten++(List.replicate (m.toNat-n.toNat) (En r)).flatten=(List.replicate m.toNat (En r)).flatten:=by
   grind[List.flatten_append,List.replicate_append_replicate]
  rw[split];by_cases h0:m.toNat*r.n=0
  ·grind[List.length_eq_zero_iff,G3]
  ·have cF:En r≠[]:=by
    grind
   have:=V6 i5 m.toNat cF;grind
 let w':=w.alloc (.cells arr el')
 have new:w'.heap[w.heap.size]? =some (.cells arr el'):=by
  show(w.heap.push (.cells arr el'))[w.heap.size]? =_
  simp
 have AL1:arr.size=m.toNat*r.n:=by simp[arr]
 have how:Ow w' E.S (8+1) (.sl r) [.slice (some ⟨w.heap.size,0,none⟩) (List.replicate n.toNat r.z).length m.toNat] (List.replicate n.toNat r.z) (w.heap.size::(List.replicate n.toNat ([]:AA4)).flatten):=by
  refine cY new cR (by simp) (by grind) (by omega) (WM _) (by simp) fun i cs y G h1 h2 h3=> ?_
  simp only[List.getElem?_replicate]at h1 h2 h3;split at h1
  ·rename_i hi
   rw[ALy hi]at h2 h3;grind[d_]
  simp_all
 have hF:(List.replicate n.toNat ([]:AA4)).flatten=[]:=by simp
 rw[hF]at how;simp only[AWy]at how;obtain⟨r1,r2,r3⟩:=TA h (G2.refl h.bx) (w':=w') (d:=9) (by omega) how (by simp) (by simp) (by simp[w']) (fun c hc _=>Ih hc) ⟨rfl,rfl,rfl,by simp[w']⟩;refine⟨_,_,_,_,_,.inl ?_,r1,r3,r2.any,rfl,e⟩;have Abt:(i.bytes:Int)*m≤2^48:=by
  have h1:(i.bytes:Int)≤512:=by omega
  have h2:(i.bytes:Int)*m≤512*m:=Int.mul_le_mul_of_nonneg_right h1 (by omega);grind[Dr]
 simp only[execOp,ho,Instr.makeSlice,e1,e2,Sem.run_bind,BZ hu,Result.andThen_ok,asInt,asIntOf,Sem.run_pure,typeInfo,run_program,i1,w1,w2];rw[AMD (by grind)];by_cases h0:m.toNat*r.n=0
 ·have e3:arr=(Array.range (m.toNat*r.n)).map (fun j=>(#[]:Array Value)[j%(#[]:Array Value).size]!):=by simp_all
  simp only[Sem.run_bind,run_askRoom,Result.andThen_ok,sizeOf,typeInfo,run_program,i1,Sem.run_pure,i2,hs,h0,AS_,newRow,run_newObj];simp only[w',e3,h0];rfl
 ·have e3:arr=(Array.range (m.toNat*r.n)).map (fun j=>z.cells[j%z.cells.size]!):=by grind
  simp only[Sem.run_bind,run_askRoom,Result.andThen_ok,sizeOf,typeInfo,run_program,i1,Sem.run_pure,i2,hs,h0,AOR,newRow,run_newObj,zeroValue,i4];simp only[w',e3];rfl
end
end Go.Fw
end
section
namespace Go.Fw
theorem iC{w:World}{B S:Nat→Prop}{d:Nat}:∀{r:Ty} {cs:List Value} {x:r.D},r.flat=true→Rd w B r cs x→Ow w S d r cs x []
 | .cons c r,cs,x,h,hr=>by
  simp only[Ty.flat,AML]at h;simp only[Rd]at hr;obtain⟨v,l,rfl,h1,h2⟩:=hr;simp only[Ow];exact⟨v,l,[],[],rfl,rfl,iC h.1 h1,iC h.2 h2⟩
 | .unit,_,_,_,hr=>by grind[Rd,Ow]
 | .int k,_,_,_,hr=>by grind[Rd,Ow]
 | .bool,_,_,_,hr=>by grind[Rd,Ow]
 | .str,_,_,_,hr=>by grind[Rd,Ow]
 | .sl q,_,_,h,_=>by simp[Ty.flat]at h
theorem LL{P:Program}{w:World}{b o:Nat}{cs:List Value}(h:Bc w b o cs):(loadCells ⟨b,o,none⟩ cs.length).run P w= .ok cs.toArray w:=
 run_loadCells_list (P:=P) w ⟨b,o,none⟩ cs fun j v hv=>by rw[Addr.add_eq];exact h j v hv
theorem XQ{l:List Value}:(l.map fun v=>[v]).flatten=l:=by
 induction l with
 |nil=>rfl
 |cons a l ih=>simp[ih]
theorem qm{w:World}{B:Nat→Prop}{r:Ty}{b o:Nat}{ys:List r.D}(h:∀(i:Nat) (y:r.D),ys[i]? =some y→ ∃cs,cs.length=r.n∧Bc w b (o+i*r.n) cs∧Rd w B r cs y):
  ∃css:List (List Value),css.length=ys.length∧(∀c∈css,c.length=r.n)∧Bc w b o css.flatten∧ ∀(i:Nat) cs y,css[i]? =some cs→ys[i]? =some y→Rd w B r cs y:=by
 induction ys generalizing o with
 |nil=>exact⟨[],rfl,by simp,fun _ _ h=>by simp at h,fun i cs y h=>by simp at h⟩
 |cons y ys ih=>
  obtain⟨cs,c1,c2,c3⟩:=h 0 y rfl;obtain⟨css,d1,d2,d3,d4⟩:=ih (o:=o+r.n) (fun i z hz=>by
   obtain⟨cs,e1,e2,e3⟩:=h (i+1) z (by simp_all);grind)
  refine⟨cs::css,by simp[d1],by simp_all,?_,?_⟩
  ·intro j v hj
   simp only[AUJ]at hj;by_cases qu:j<cs.length
   ·rw[ANd qu]at hj
    have:=c2 j v hj;simp_all
   ·rw[ANr (by omega)]at hj
    have:=d3 _ v hj;grind
  grind
theorem Bc.append{w:World}{b o:Nat}{l m:List Value}(h:Bc w b o l)(k:Bc w b (o+l.length) m):Bc w b o (l++m):=by
 intro j v hj;by_cases qu:j<l.length
 ·rw[ANd qu]at hj
  exact h j v hj
 ·rw[ANr (by omega)]at hj
  have:=k _ v hj;grind
section
variable{Y:Type} {P:Program} {T:JY} (hT:Eo P T) {o:Oper} {E:Env} {σ:St} {a:Act} {w:World} {k:K Y} {y:Y}
theorem Ie(hT:Eo P T){t:Nat}{d:TD}(e:(T.get t).map TI.desc=some d):gZ P t d:=by
 simp only[AMI]at e;obtain⟨ti,h1,rfl⟩:=e;exact(hT t ti h1).und
theorem qJ{src dst e:Nat}(hs:P.underlying src=some (.slice e))(he:P.underlying e=some (.int .u8))(hd:P.underlying dst=some .string){x:Value}{l:AAO}{B:Nat→Prop}
  (h:Rd w B (.sl (.int .u8)) [x] l):(convert src dst x).run P w= .ok (.string ⟨(l.map fun n:Int=>UInt8.ofNat n.toNat).toArray⟩) w:=by
 simp only[Rd]at h;obtain⟨a,cap,hx,hle,h⟩:=h;simp only[AQj,ATG]at hx;subst hx;rcases h with h|⟨b,o,rfl,_,h⟩
 ·obtain rfl:=AQO h
  cases a with
  |none=>exact run_convert_bytes_nil w src e hs he _ _ dst hd
  |some a=>
   rw[run_convert_bytes_string w src dst e _ _ cap hs he hd];rfl
 ·refine run_convert_bytes_arg w src e hs he b o _ cap l rfl (fun i hi=> ?_) dst hd
  obtain⟨cs,c1,c2,c3⟩:=h i _ (AL5 hi);subst c3;have:=c2 0 _ rfl;grind
include hT in
theorem ABR(h:Rel E σ a w){src dst:Nat}{x:Operand}(ho:o.op= .convert src dst x)(e:sE T src dst σ (σ.ev x) k=some y):LZ P o E σ a w k y:=by
 have hx:=h.ev x;unfold sE at e;split at e
 ·rename_i κ0 κ j n hs hd hv
  have h1:=Ie hT hs;have h2:=Ie hT hd;rw[hv]at hx;have X5:=aU (E:=E) (w:=w) (vw:=σ.bx) hx;refine LZ.same h (v:= .int κ (κ.wrap n)) (x:= .c (.v (.int κ) (κ.wrap n))) ?_ (VR.int (E:=E) (vw:=σ.bx) _ _) e
  simp only[gZ]at h1 h2;simp only[execOp,ho,X5,convert,Sem.run_bind,BZ h1,BZ h2,Result.andThen_ok,Conv.intToInt,Sem.run_pure]
 ·rename_i s hs hd hv
  have h1:=Ie hT hs;have h2:=Ie hT hd;rw[hv]at hx;have X5:=XW (E:=E) (w:=w) (vw:=σ.bx) hx;refine LZ.same h (v:= .string ⟨s.toArray⟩) (x:= .c (.v .str s)) ?_ (VR.str (E:=E) (vw:=σ.bx) _) e
  simp only[gZ]at h1 h2;simp only[execOp,ho,X5,convert,Sem.run_bind,BZ h1,BZ h2,Result.andThen_ok,Sem.run_pure]
 ·rename_i el s hs hd hv
  have h1:=Ie hT hs;have h2:=Ie hT hd;rw[hv]at hx;have X5:=XW (E:=E) (w:=w) (vw:=σ.bx) hx;split at e
  case h_2=>cases e
  rename_i T7;have h3:=Ie hT T7;split at e
  case isFalse=>cases e
  rename_i Zk;simp only[gZ]at h1 h2 h3
  let S0:ByteArray:=⟨s.toArray⟩
  have PC:S0.size=s.length:=by simp[S0,ByteArray.size]
  have iN:=Lib.run_convert_string_bytes (P:=P) w src dst el S0 h1 h2 h3;have zT:s.length≤grownCap w S0.size 0 el:=by rw[PC];exact grownCap_ge _ _ _ _
  have new:=Lib.bytesWorld_at_new w el S0;have cR:(Lib.bytesCells w el S0).toList=(s.map fun c=>[Value.int .u8 (c.toNat:Int)]).flatten++List.replicate (grownCap w S0.size 0 el-S0.size) (.int .u8 0):=by
   have:(s.map fun c=>[Value.int .u8 (c.toNat:Int)]).flatten=s.map fun c=>Value.int .u8 (c.toNat:Int):=by
    have:=XQ (l:=s.map fun c=>Value.int .u8 (c.toNat:Int));simpa[AUo,Function.comp_def]using this
   rw[this];simp[Lib.bytesCells,S0]
  have AL1:(Lib.bytesCells w el S0).size=grownCap w S0.size 0 el:=by
   rw[←AWN,cR];have:((s.map fun c=>[Value.int .u8 (c.toNat:Int)]).flatten).length=s.length:=by
    have:=XQ (l:=s.map fun c=>Value.int .u8 (c.toNat:Int));rw[AUo]at this;have e2:(s.map fun c=>[Value.int .u8 (c.toNat:Int)])=s.map ((fun v=>[v])∘fun c=>Value.int .u8 (c.toNat:Int)):=rfl;rw[e2,this];simp
   rw[APB,this,AWy];omega
  have how:Ow (Lib.bytesWorld w el S0) E.S (8+1) (.sl (.int .u8)) [.slice (some ⟨w.heap.size,0,none⟩) (s.map fun c=>(c.toNat:Int)).length (grownCap w S0.size 0 el)] (s.map fun c=>(c.toNat:Int))
    (w.heap.size::(List.replicate s.length ([]:AA4)).flatten):=by
   refine cY (css:=s.map fun c=>[Value.int .u8 (c.toNat:Int)]) new cR (by simp) (by simpa using zT) (by simp[Ty.n];omega) (fun i hi hh=>by simp only[mk]at hi;omega) (by simp) fun i cs y G q1 q2 q3=> ?_
   simp only[ASJ,AMI]at q1 q2;obtain⟨c1,z1,rfl⟩:=q1;obtain⟨c2,z2,rfl⟩:=q2;rw[z1]at z2;cases z2;have:G=[]:=ATu (ANi q3);subst this;simp[Ow]
  have hF:(List.replicate s.length ([]:AA4)).flatten=[]:=by simp
  rw[hF]at how;obtain⟨r1,r2,r3⟩:=TA h (G2.refl h.bx) (w':=Lib.bytesWorld w el S0) (d:=9) (by omega) how (by simp) (by simp) (by simp[Lib.bytesWorld_size]) (fun c hc _=>Lib.bytesWorld_at_old w el S0 c hc)
   ⟨by simp[Lib.bytesWorld,World.freeze]<;>rfl,by simp[Lib.bytesWorld,World.freeze]<;>rfl,by simp[Lib.bytesWorld,World.freeze]<;>rfl,by rw[Lib.bytesWorld_size];omega⟩
  refine⟨_,_,_,_,_,.inl ?_,r1,r3,r2.any,rfl,e⟩;simp only[execOp,ho,X5,Sem.run_bind];have e5:=iN;simp only[S0]at e5;rw[e5];simp only[Result.andThen_ok,Sem.run_pure,AXK];rfl
 ·rename_i el z hs hd hv
  have h1:=Ie hT hs;have h2:=Ie hT hd;rw[hv]at hx;split at e
  case h_2=>cases e
  rename_i l T7 hl;have h3:=Ie hT T7;simp only[gZ]at h1 h2 h3;obtain⟨Fs,hB,hS⟩:=h.bx;have Xn:=UM (FH.refl σ.bx) hB hS.st hx hl;have hr:=qJ (P:=P) h1 h3 h2 Xn;refine LZ.same h (v:= .string ⟨(l.map fun n:Int=>UInt8.ofNat n.toNat).toArray⟩) (x:= .c (.v .str (l.map fun n:Int=>UInt8.ofNat n.toNat))) ?_ (VR.str (E:=E) (vw:=σ.bx) _) e
  simp only[execOp,ho,Sem.run_bind,hr,Result.andThen_ok,Sem.run_pure]
 ·cases e
end
end Go.Fw
end
section
namespace Go.Fw
theorem cD:∀(l:List Value) (o:Nat) (arr:Array Value) (p q:List Value),p.length=o→(∃m:List Value,m.length=l.length∧arr.toList=p++m++q)→(FE arr o l).toList=p++l++q
 |[],o,arr,p,q,hp,⟨m,hm,h⟩=>by
  grind[List.eq_nil_of_length_eq_zero,FE]
 |c::l,o,arr,p,q,hp,⟨m,hm,h⟩=>by
  cases m with
  |nil=>simp_all
  |cons b m=>
   simp only[FE];have:=cD l (o+1) (arr.setIfInBounds o c) (p++[c]) q (by simp[hp]) ⟨m,by simp_all,by
    simp_all⟩
   simp_all
theorem G2.more{E E1 E2:Env}{w:World}{vw bx ji aM:List Bx}{G F1 F2 A W:AA4}(k1:G2 E w vw bx G E1 ji F1)(k2:G2 E1 w vw ji (F1++G) E2 aM F2)(hp:F1.Perm (A++W)):
  let E3:Env:={ E2 with S:=fun c=>E2.S c∨c∈W,T:=fun c=>E2.T c∨c∈W }
  G2 E w vw bx G E3 aM (A++F2):=by
 intro E3;have hB:=k2.boxes.perm (G':=(F2++A)++W++G) (by
  grind)
 obtain⟨hle,Xg⟩:=hB.share;exact⟨(k1.le.trans k2.le).trans hle,k2.len.trans k1.len,fun b B hb=>(k2.within b B hb).elim .inl (k1.within b B),Xg.perm (AU4 _ List.perm_append_comm)⟩
theorem ZM{w:World}{vw:List Bx}{r:Ty}(hg:r.vF=true):∀{n i:Nat} {parts:List (Nat×XV)} {vals:List (Nat×Value)} {E:Env} {bx:List Bx} {G:AA4} {d:Nat} {rows:List r.D} {QS:List Bx} {d':Nat},
  C9 E w vw bx G→FH bx vw→1≤d→yP E w vw parts vals→Ye r i n parts bx d=some (rows,QS,d')→1≤d'∧d'≤d∧rows.length=n∧ ∃(E':Env) (Fs:List AA4) (css:List (List Value)),
   G2 E w vw bx G E' QS Fs.flatten∧css.length=n∧Fs.length=n∧(∀(k:Nat) cs y G,css[k]? =some cs→rows[k]? =some y→Fs[k]? =some G→Ow w E'.S (d'-1) r cs y G)∧
   ∀(pre:List (List Value)) (arr:Array Value),pre.length=i→(∀c∈pre,c.length=r.n)→arr.toList=pre.flatten++(List.replicate n (En r)).flatten→
    ∃KI,Instr.fill (fun i=>some (i*r.n,r.n)) arr vals=some KI∧KI.toList=pre.flatten++css.flatten
 |0,i,[],[],E,bx,G,d,rows,QS,d',h,hw,hd,hp,e=>by
  simp only[Ye,AMF,APv]at e;obtain⟨rfl,rfl,rfl⟩:=e;refine⟨hd,AQW _,rfl,E,[],[],G2.refl h,rfl,rfl,by simp,fun pre arr _ _ ha=>⟨arr,rfl,by simp_all⟩⟩
 |n+1,i,(j,x)::l,(j',v)::m,E,bx,G,d,rows,QS,d',h,hw,hd,hp,e=>by
  obtain⟨⟨hj,hx⟩,hp⟩:=hp;simp only at hj hx;subst hj;simp only[Ye]at e;split at e
  case isFalse=>cases e
  rename_i zF;subst zF;simp only[AMQ,AMI,APv]at e;obtain⟨⟨y1,ji,d1⟩,e1,⟨y2,aM,d2⟩,e2,rfl,rfl,rfl⟩:=e;dsimp only at e2⊢;obtain⟨a1,a2,E1,F1,k1,o1⟩:=wN h hw hd hx e1;have v7:=k1.le.keep (w:=w) (vw:=vw) h.st;obtain⟨b1,b2,b3,E2,Fs,css,k2,c1,c2,c3,c4⟩:=ZM hg (G:=F1++G) k1.boxes (hw.p_ k1) a1 (hp.imp fun _ _ q=>⟨q.1,Og v7 q.2⟩) e2;obtain⟨A,W,pz,o1'⟩:=Jm (d:=d'-1) (by omega) o1;refine⟨b1,ASs b2 a2,by simp[b3],_,A::Fs,v.cells.toList::css,G2.more k1 k2 pz,by simp[c1],by simp[c2],fun k cs y G' q1 q2 q3=> ?_,fun pre arr km hpn ha=> ?_⟩
  ·cases k with
   |zero=>
    simp at q1 q2 q3;subst q1 q2 q3;refine EX (S:=fun b=>E1.S b∨b∈W) ?_ (fun _ _=>rfl) (fun _ _=>rfl) o1'
    intro c hc;exact hc.elim (fun h=> .inl (k2.le.S c h)) .inr
   |succ k=>
    refine EX (S:=E2.S) ?_ (fun _ _=>rfl) (fun _ _=>rfl) (c3 k cs y G' (by simp_all) (by simp_all) (by simp_all))
    simp_all
  ·have hlen:v.cells.toList.length=r.n:=XT o1
   have hpf:pre.flatten.length=i*r.n:=by
    clear ha c4
    subst km;clear e1 e2
    induction pre with
    |nil=>simp
    |cons c pre ih=>grind
   have WT:(FE arr (i*r.n) v.cells.toList).toList=pre.flatten++v.cells.toList++(List.replicate n (En r)).flatten:=
    cD _ _ _ _ _ hpf ⟨En r,by rw[Gp,hlen],by grind⟩
   obtain⟨KI,f1,f2⟩:=c4 (pre++[v.cells.toList]) (FE arr (i*r.n) v.cells.toList) (by simp[km]) (by
    grind) (by simp_all)
   refine⟨KI,?_,by simp_all⟩;rw[sZ (i:=i) (off:=i*r.n) (size:=r.n) rfl (by omega) ?_]
   all_goals grind[List.length_append,G3,Gp,Nat.succ_mul]
 |n+1,i,[],[],E,bx,G,d,rows,QS,d',h,hw,hd,hp,e=>by
  simp only[Ye,AMI,APv]at e;obtain⟨⟨y2,aM,d2⟩,e2,rfl,rfl,rfl⟩:=e;obtain⟨b1,b2,b3,E2,Fs,css,k2,c1,c2,c3,c4⟩:=ZM hg (G:=G) h hw hd (parts:=[]) (vals:=[]) trivial e2;refine⟨b1,b2,by simp[b3],E2,[]::Fs,En r::css,by simp_all,by simp[c1],by simp[c2],fun k cs y G' q1 q2 q3=> ?_,fun pre arr km hpn ha=> ?_⟩
  ·grind[d_]
  ·obtain⟨KI,f1,f2⟩:=c4 (pre++[En r]) arr (by simp[km]) (by
    grind[Gp]) (by grind)
   simp_all
 |0,_,_::_,_,_,_,_,_,_,_,_,_,_,_,_,e=>by simp[Ye]at e
 |0,_,[],_::_,_,_,_,_,_,_,_,_,_,_,hp,_=>hp.elim
 |_+1,_,[],_::_,_,_,_,_,_,_,_,_,_,_,hp,_=>hp.elim
 |_+1,_,_::_,[],_,_,_,_,_,_,_,_,_,_,hp,_=>hp.elim
section
variable{Y:Type} {P:Program} {T:JY} (hT:Eo P T) {o:Oper} {E:Env} {σ:St} {a:Act} {w:World} {k:K Y} {y:Y}
include hT
theorem nI(h:Rel E σ a w){t n:Nat}{ps:Array (Nat×Operand)}(ho:o.op= .buildSlice t n ps)(e:Qu T t n (ps.toList.map fun q=>(q.1,σ.ev q.2)) σ k=some y):LZ P o E σ a w k y:=by
 unfold Qu at e;split at e
 case h_2=>cases e
 rename_i el hd;split at e
 case h_2=>cases e
 rename_i r hr;split at e
 case isFalse=>cases e
 rename_i hc;simp only[AML,AMc]at hc;obtain⟨⟨T7,hn⟩,hrn⟩:=hc;simp only[AMQ]at e;obtain⟨⟨rows,QS,d'⟩,e1,e⟩:=e;dsimp only at e;obtain⟨el',ti,hu,Um,hs,hby,hrow⟩:=J6 hT T7;obtain⟨i,z,i1,i2,i3,i4,i5,hg⟩:=WQ hT Um hrow;have APM:=oN h ps;obtain⟨b1,b2,b3,E',Fs,css,k2,c1,c2,c3,c4⟩:=ZM hg h.bx (FH.refl _) (by omega) APM e1
 let zero:Array Value:=if n*r.n=0 then #[]else z.cells
 have hz:((Array.range (n*r.n)).map (fun j=>zero[j%zero.size]!)).toList=(List.replicate n (En r)).flatten:=by
  by_cases h0:n*r.n=0
  ·have h1:(List.replicate n (En r)).flatten=[]:=by
    rw[←AXL,G3,Gp,h0]
   rw[h1];simp[h0]
  ·have cF:En r≠[]:=by
    intro he;have:=Gp r;rw[he]at this;simp at this;rw[←this]at h0;simp at h0
   have:=V6 i5 n cF;rw[Gp]at this;simp only[zero,AMD h0];exact this
 obtain⟨KI,f1,f2⟩:=c4 [] _ rfl (by simp) (by rw[hz];simp);simp only[AWd,ATA]at f2
 let w':=w.alloc (.cells KI el')
 have new:w'.heap[w.heap.size]? =some (.cells KI el'):=by
  show(w.heap.push (.cells KI el'))[w.heap.size]? =_
  simp
 obtain⟨d,rfl⟩:∃m,d' =m+1:=⟨d'-1,by omega⟩;have hl:∀c∈css,c.length=r.n:=by
  intro c hc;obtain⟨j,hj,rfl⟩:=AQa hc;exact XT (c3 j _ _ _ (AL5 hj) (AL5 (by omega)) (AL5 (by omega)))
 have xy:css.flatten.length=n*r.n:=by
  rw[←c1];clear f2 c3 c4 c1
  induction css with
  |nil=>simp
  |cons c l ih=>simp[hl c (by simp),ih (fun c hc=>hl c (by simp[hc])),Nat.succ_mul];omega
 have AL1:KI.size=n*r.n:=by rw[←AWN,f2,xy]
 obtain⟨Fs0,hB1,Xg⟩:=k2.boxes;simp only[AM5]at Xg;have how:Ow w' E'.S (d+1) (.sl r) [.slice (some ⟨w.heap.size,0,none⟩) rows.length n] rows (w.heap.size::Fs.flatten):=by
  refine cY (css:=css) (ex:=[]) new (by simpa using f2) (by omega) (by omega) (by omega) (WM _) (by omega) fun k cs y G q1 q2 q3=> ?_
  have PY:∀c∈G,c∈Fs.flatten:=fun c hc=>ASw.2 ⟨G,ANi q3,hc⟩
  exact EX (fun _ h=>h) (fun c hc=>Ih (Xg.cS c (Xg.st c hc))) (fun c hc=>Ih (Xg.lt c (by simp only[AOs];exact .inr (PY c hc)))) (by simpa using c3 k cs y G q1 q2 q3)
 rw[b3]at how;obtain⟨r1,r2,r3⟩:=TA h k2 (w':=w') (d:=d+1) (by omega) how (by
   intro c hc;rcases ANv.1 hc with rfl|hc
   ·exact .inr (AQW _)
   ·exact .inl hc) (by
   refine AW6.2 ⟨fun hc=> ?_,(ANN.1 Xg.nodup).2.1⟩;have:=Xg.lt w.heap.size (by simp only[AOs];exact .inr hc);omega) (by
   intro c hc;rcases ANv.1 hc with rfl|hc
   ·simp[w']
   ·have:=Xg.lt c (by simp only[AOs];exact .inr hc)
    simp[w'];omega) (fun c hc _=>Ih hc) ⟨rfl,rfl,rfl,by simp[w']⟩
 refine⟨_,_,_,_,_,.inl ?_,r1,r3,r2.any,rfl,e⟩;have Zk: ¬(n*r.n>2^24):=by
  have:n*r.n≤1024*1024:=AXg hn hrn;omega
 simp only[execOp,ho,Instr.buildSlice,Sem.run_bind,BZ hu,Result.andThen_ok,sizeOf,typeInfo,run_program,i1,Sem.run_pure,i2,hs,Zk,AOR];by_cases h0:n*r.n=0
 ·have hz0:zero= #[]:=by simp only[zero,ALy h0]
  rw[hz0]at f1;simp only[h0,AS_,Sem.run_bind,Sem.run_pure,Result.andThen_ok];rw[h0]at f1;simp only[f1,newRow,Sem.run_bind,run_newObj,Result.andThen_ok,Sem.run_pure];rfl
 ·have hz0:zero=z.cells:=by simp only[zero,AMD h0]
  rw[hz0]at f1;simp only[h0,AOR,Sem.run_bind,zeroValue,typeInfo,run_program,Result.andThen_ok,i1,Sem.run_pure,i4];simp only[f1,newRow,Sem.run_bind,run_newObj,Result.andThen_ok,Sem.run_pure];rfl
end
end Go.Fw
end
section
namespace Go.Fw
theorem bE(w:World)(b o:Nat)(v:Value):(w.setCell ⟨b,o,none⟩ v).heap=w.heap.modify b fun
 | .cells c elem frozen=> .cells (c.setIfInBounds o v) elem frozen
 |o=>o:=rfl
theorem FY:∀(vs:List Value) (o:Nat) (w:World) (b:Nat) (arr:Array Value) (ty:TypeId) (fr:AC7),w.heap[b]? =some (.cells arr ty fr)→
  (w.setCells b o vs).heap[b]? =some (.cells (FE arr o vs) ty fr)
 |[],_,_,_,_,_,_,h=>h
 |v::l,o,w,b,arr,ty,fr,h=>by
  simp only[World.setCells,FE];refine FY l (o+1) _ b _ ty fr ?_
  rw[bE,Array.getElem?_modify,ALy rfl,h];rfl
theorem DY:∀(vs:List Value) (o:Nat) (w:World) (b:Nat),(w.setCells b o vs).heap.size=w.heap.size
 |[],_,_,_=>rfl
 |v::l,o,w,b=>by
  simp only[World.setCells];rw[DY l,bE,Array.size_modify]
theorem DP:∀(vs:List Value) (o:Nat) (w:World) (b c:Nat),c≠b→(w.setCells b o vs).heap[c]? =w.heap[c]?
 |[],_,_,_,_,_=>rfl
 |v::l,o,w,b,c,h=>by
  simp only[World.setCells];rw[DP l _ _ _ _ h,bE,Array.getElem?_modify,AMD (fun e=>h e.symm)]
theorem B_:∀(vs:List Value) (o:Nat) (w:World) (b:Nat),Grown w (w.setCells b o vs)
 |[],_,_,_=>⟨rfl,rfl,rfl,AQW _⟩
 |v::l,o,w,b=>by
  have:=B_ l (o+1) (w.setCell ⟨b,o,none⟩ v) b;refine⟨this.os,this.tape,this.output,?_⟩;rw[DY];omega
theorem Vw{arr:Array Value}:∀{l:List Value} {o j:Nat},o+l.length≤arr.size→(FE arr o l)[j]? =if o≤j∧j<o+l.length then l[j-o]? else arr[j]?:=by
 intro l
 induction l generalizing arr with
 |nil=>intro o j _;rw[AMD (fun hh=>by grind)];rfl
 |cons c l ih=>
  intro o j h;simp only[ANZ]at h;simp only[FE];grind
theorem Ka{w:World}{b o:Nat}{arr:Array Value}{ty:TypeId}{fr:AC7}(h:w.heap[b]? =some (.cells arr ty fr)):w.cell? ⟨b,o,none⟩=arr[o]?:=by
 simp[World.cell?,h]
theorem ON{w:World}{b o:Nat}{vs:List Value}{arr:Array Value}{ty:TypeId}{fr:AC7}(h:w.heap[b]? =some (.cells arr ty fr))(hs:o+vs.length≤arr.size):Bc (w.setCells b o vs) b o vs:=by
 intro j v hj;have hl:=(AMK.1 hj).1;rw[Ka (FY vs o w b arr ty fr h),Vw hs,ALy (by omega),show o+j-o=j by omega,hj]
theorem T2{w:World}{b b' o o':Nat}{vs cs:List Value}{arr:Array Value}{ty:TypeId}{fr:AC7}(hc:Bc w b' o' cs)(h:w.heap[b]? =some (.cells arr ty fr))(hs:o+vs.length≤arr.size)
  (ha:b'≠b∨o'+cs.length≤o∨o+vs.length≤o'):Bc (w.setCells b o vs) b' o' cs:=by
 intro j v hj;have hl:=(AMK.1 hj).1;by_cases hb:b' =b
 ·subst hb
  have:=hc j v hj;rw[Ka h]at this;rw[Ka (FY vs o w b' arr ty fr h),Vw hs,AMD (by omega),this]
 ·rw[World.cell?_of_block (a:=⟨b',o'+j,none⟩) (DP vs o w b b' hb)]
  exact hc j v hj
theorem US{w:World}{b o n k:Nat}{arr:Array Value}{ty:TypeId}{fr:AC7}(h:w.heap[b]? =some (.cells arr ty fr))(hs:o+n≤arr.size)(hu:vy fr (arr.size+k)):w.there b o n:=by
 intro j hj;refine⟨?_,?_⟩
 ·rw[Ka h]
  grind
 ·have:=hu (o+j) (by omega)
  grind[World.frozen?]
theorem j6{w:World}{S:Nat→Prop}:∀{r:Ty} {d:Nat} {cs:List Value} {y:r.D} {F:AA4},Ow w S d r cs y F→ ∀v∈cs,v.oneCell' =true
 | .int _,_,_,_,_,h,v,hv=>by simp only[Ow]at h;rw[h.1]at hv;simp at hv;subst hv;rfl
 | .bool,_,_,_,_,h,v,hv=>by simp only[Ow]at h;rw[h.1]at hv;simp at hv;subst hv;rfl
 | .str,_,_,_,_,h,v,hv=>by simp only[Ow]at h;rw[h.1]at hv;simp at hv;subst hv;rfl
 | .unit,_,_,_,_,h,v,hv=>by grind[Ow]
 | .sl _,0,_,_,_,h,v,hv=>by
  simp only[Ow,Rd]at h;obtain⟨⟨_,_,rfl,_⟩,_⟩:=h;simp at hv;subst hv;rfl
 | .sl _,_+1,_,_,_,h,v,hv=>by
  simp only[Ow]at h;obtain⟨_,_,rfl,_⟩:=h;simp at hv;subst hv;rfl
 | .cons _ _,_,_,_,_,h,v,hv=>by
  simp only[Ow]at h;obtain⟨u,l,F1,F2,rfl,_,h1,h2⟩:=h;rcases ANv.1 hv with rfl|hv
  ·exact j6 h1 _ (by simp)
  ·exact j6 h2 _ hv
section
variable{P:Program} {w:World}
structure kR (P:Program) (w:World) (size n:Nat) (x:Value) (news:List Value):Prop where
 len:∀w',(Builtin.lenOf x).run P w' = .ok n w'
 cells:∀w',w'.heap=w.heap→(Builtin.firstCells size n x).run P w' = .ok news.toArray w'
theorem fT{ts:Array TypeId}{t u ty e:TypeId}(wh:ts[0]? =some t)(xO:ts[1]? =some u){i:TypeInfo}{size:Nat}(ht:P.underlying t=some (.slice e))(hu:(∃e,P.underlying u=some (.slice e))∨P.underlying u=some .string)(hi:P.info? e=some i)(PC:i.size=size)
  {b o Us i6 n:Nat} {x:Value} {news:List Value} (hn:kR P w size n x news) (Sk:Us+n≤i6) (pQ:w.there b (o+Us*size) news.length) (h1:∀v∈news,v.oneCell' =true):
  (Builtin.append_ ts ty #[.slice (some ⟨b,o,none⟩) Us i6,x]).run P w= .ok (.slice (some ⟨b,o,none⟩) (Us+n) i6) (w.setCells b (o+Us*size) news):=by
 subst PC;have fN:=run_storeCells_cells (P:=P) b (o+Us*i.size) news 0 w (fun j hj=>by simpa using(pQ j hj).1) (fun j hj=>by simpa using(pQ j hj).2) h1;simp only[AUN]at fN;have hl:=hn.len w;have hf:=hn.cells w rfl;rcases hu with⟨e',hu⟩|hu
 ·simp[Builtin.append_,wh,xO,run_underlying ht,run_underlying hu,sizeOf,typeInfo,hi,hl,Sk,hf,Addr.add_eq,fN]
 ·simp[Builtin.append_,wh,xO,run_underlying ht,run_underlying hu,sizeOf,typeInfo,hi,hl,Sk,hf,Addr.add_eq,fN]
theorem mi{ts:Array TypeId}{t u ty e:TypeId}(wh:ts[0]? =some t)(xO:ts[1]? =some u){i:TypeInfo}{size:Nat}(ht:P.underlying t=some (.slice e))(hu:(∃e,P.underlying u=some (.slice e))∨P.underlying u=some .string)(hi:P.info? e=some i)(PC:i.size=size)
  {a:Option Addr} {x:Value} (hn:kR P w size 0 x []):
  (Builtin.append_ ts ty #[.slice a 0 0,x]).run P w= .ok (.slice a 0 0) w:=by
 subst PC;have hl:=hn.len w;have hf:=hn.cells w rfl;cases a with
 |none=>
  rcases hu with⟨e',hu⟩|hu
  ·simp[Builtin.append_,wh,xO,run_underlying ht,run_underlying hu,sizeOf,typeInfo,hi,hl,hf]
  ·simp[Builtin.append_,wh,xO,run_underlying ht,run_underlying hu,sizeOf,typeInfo,hi,hl,hf]
 |some a=>
  have fN:(storeCells (a.add (0*i.size)) [] 0).run P w= .ok () w:=rfl;rcases hu with⟨e',hu⟩|hu
  ·simp[Builtin.append_,wh,xO,run_underlying ht,run_underlying hu,sizeOf,typeInfo,hi,hl,hf,storeCells]
  ·simp[Builtin.append_,wh,xO,run_underlying ht,run_underlying hu,sizeOf,typeInfo,hi,hl,hf,storeCells]
theorem bo{ts:Array TypeId}{t u ty e:TypeId}(wh:ts[0]? =some t)(xO:ts[1]? =some u){i:TypeInfo}{z:Value}{size:Nat}(ht:P.underlying t=some (.slice e))(hu:(∃e,P.underlying u=some (.slice e))∨P.underlying u=some .string)(hi:P.info? e=some i)(hz:i.zero=some z)(PC:i.size=size)
  {a:Option Addr} {Us i6 n:Nat} {x:Value} {AUK news:List Value} (ho:∀w',w'.heap=w.heap→(Builtin.firstCells size Us (.slice a Us i6)).run P w' = .ok AUK.toArray w')
  (hn:kR P w size n x news) (AVQ:i6<Us+n) (h63:Us+n≤Dr) (hby:i.bytes≤512):
  (Builtin.append_ ts ty #[.slice a Us i6,x]).run P w= .ok (.slice (some ⟨w.heap.size,0,none⟩) (Us+n) (grownCap w (Us+n) i6 e))
   (w.drew.alloc (.cells (AUK.toArray++news.toArray++Builtin.zeroCells z.cells (grownCap w (Us+n) i6 e-(Us+n))) e)):=by
 subst PC;have hl:=hn.len w;have hf:=hn.cells w.drew rfl;have hfo:=ho w.drew rfl;have hno: ¬(Us+n≤i6):=by omega
 have hb:(Us+n)*i.bytes≤140737488355328:=by
  have:(Us+n)*i.bytes≤Dr*512:=AXg h63 hby;grind[Dr]
 have h48:=growslice_fits AVQ hb;have AVV: ¬(281474976710656<Builtin.nextslicecap (Us+n) i6*i.bytes):=by omega
 have AWo: ¬(9223372036854775807<((Us:Int)+(n:Int))):=by grind[Dr]
 rcases hu with⟨e',hu⟩|hu
 ·simp[Builtin.append_,wh,xO,run_underlying ht,run_underlying hu,sizeOf,typeInfo,zeroValue,hi,hz,hl,hno,AWo,AVV,Question.forced,hf,hfo,newRow,grownCap]
  grind
 ·simp[Builtin.append_,wh,xO,run_underlying ht,run_underlying hu,sizeOf,typeInfo,zeroValue,hi,hz,hl,hno,AWo,AVV,Question.forced,hf,hfo,newRow,grownCap]
  grind
end
end Go.Fw
end
section
namespace Go.Fw
def FK(w:World)(S:Nat→Prop)(d:Nat)(r:Ty)(css:List (List Value))(rows:List r.D)(Fs:List AA4):Prop:=
 css.length=rows.length∧Fs.length=rows.length∧(∀c∈css,c.length=r.n)∧ ∀(i:Nat) cs y G,css[i]? =some cs→rows[i]? =some y→Fs[i]? =some G→Ow w S d r cs y G
theorem FK.mono{w w':World}{S S':Nat→Prop}{d:Nat}{r:Ty}{css:List (List Value)}{rows:List r.D}{Fs:List AA4}(h:FK w S d r css rows Fs)(hS:∀c,S c→S' c)(hw:∀c,S c→w'.heap[c]? =w.heap[c]?)
  (hF:∀c∈Fs.flatten,w'.heap[c]? =w.heap[c]?):FK w' S' d r css rows Fs:=
 ⟨h.1,h.2.1,h.2.2.1,fun i cs y G a b c=>EX hS hw (fun x hx=>hF x (ASw.2 ⟨G,ANi c,hx⟩)) (h.2.2.2 i cs y G a b c)⟩
theorem FK.append{w:World}{S:Nat→Prop}{d:Nat}{r:Ty}{css AVo:List (List Value)}{rows Cz:List r.D}{Fs Fs':List AA4}(h:FK w S d r css rows Fs)(k:FK w S d r AVo Cz Fs'):
  FK w S d r (css++AVo) (rows++Cz) (Fs++Fs'):=by
 refine⟨by simp[h.1,k.1],by simp[h.2.1,k.2.1],fun c hc=>(AOs.1 hc).elim (h.2.2.1 c) (k.2.2.1 c),fun i cs y G a b c=> ?_⟩;by_cases hi:i<rows.length
 ·rw[ANd (by rw[h.1];omega)]at a
  rw[ANd hi]at b;rw[ANd (by rw[h.2.1];omega)]at c;exact h.2.2.2 i cs y G a b c
 ·rw[ANr (by rw[h.1];omega)]at a
  rw[ANr (by omega)]at b;rw[ANr (by rw[h.2.1];omega)]at c;rw[h.1]at a;rw[h.2.1]at c;exact k.2.2.2 _ cs y G a b c
theorem FK.weaken{w:World}{S:Nat→Prop}{d d':Nat}{r:Ty}{css:List (List Value)}{rows:List r.D}{Fs:List AA4}(h:FK w S d r css rows Fs)(hd:d'≤d):
  ∃(Gs:List AA4) (W:AA4),Fs.flatten.Perm (Gs.flatten++W)∧FK w (fun c=>S c∨c∈W) d' r css rows Gs:=by
 obtain⟨Gs,Ws,h1,h2,h3,h4⟩:=qQ (R:=fun i G F W=> ∀cs y,css[i]? =some cs→rows[i]? =some y→Ow w (fun c=>S c∨c∈W) d' r cs y F) Fs 0 (fun i G hG=>by
  rw[ATU];have hi:=(AMK.1 hG).1;have h1:=h.1;have h2:=h.2.1;obtain⟨F,W,hp,ho⟩:=Jm hd (h.2.2.2 i _ _ G (AL5 (by omega)) (AL5 (by omega)) hG);grind)
 refine⟨Gs,Ws.flatten,h3,h.1,h1.trans h.2.1,h.2.2.1,fun i cs y G a b c=> ?_⟩;have hi:=(AMK.1 c).1;have hw:Ws[i]? =some (Ws[i]'(by omega)):=AL5 _;have hf:Fs[i]? =some (Fs[i]'(by omega)):=AL5 _;have:=h4 i _ _ _ hf c hw cs y (by simp_all) (by simp_all);exact EX (fun x hx=>hx.imp id fun hx=>ASw.2 ⟨_,ANi hw,hx⟩) (fun _ _=>rfl) (fun _ _=>rfl) this
theorem He{n:Nat}:∀{css:List (List Value)},(∀c∈css,c.length=n)→css.flatten.length=css.length*n
 |[],_=>by simp
 |c::l,h=>by simp[h c (by simp),He (css:=l) (fun c hc=>h c (by simp[hc])),Nat.succ_mul];omega
theorem FK.one{w:World}{S:Nat→Prop}{d:Nat}{r:Ty}{css:List (List Value)}{rows:List r.D}{Fs:List AA4}(h:FK w S d r css rows Fs):∀v∈css.flatten,v.oneCell' =true:=by
 intro v hv;obtain⟨c,hc,hv⟩:=ASw.1 hv;obtain⟨i,hi,rfl⟩:=AQa hc;have h1:=h.1;have h2:=h.2.1;exact j6 (h.2.2.2 i _ _ _ (AL5 hi) (AL5 (by omega)) (AL5 (by omega))) v hv
theorem FK.flat{w:World}{B S:Nat→Prop}{d:Nat}{r:Ty}(hf:r.flat=true){css:List (List Value)}{rows:List r.D}(h1:css.length=rows.length)(h2:∀c∈css,c.length=r.n)
  (h3:∀(i:Nat) cs y,css[i]? =some cs→rows[i]? =some y→Rd w B r cs y):FK w S d r css rows (List.replicate rows.length []):=by
 refine⟨h1,by simp,h2,fun i cs y G a b c=> ?_⟩;grind[List.mem_of_getElem?,iC]
theorem Bc.heap{w w':World}{b o:Nat}{cs:List Value}(h:Bc w b o cs)(e:w'.heap=w.heap):Bc w' b o cs:=h.of_block (by rw[e])
theorem QM{P:Program}{w:World}{a:Option Addr}{n cap size:Nat}{css:List (List Value)}(hl:css.length=n)(hc:∀c∈css,c.length=size)
  (h:n=0∨ ∃b o,a=some ⟨b,o,none⟩∧Bc w b o css.flatten):kR P w size n (.slice a n cap) css.flatten:=by
 refine⟨fun w' =>rfl,fun w' e=> ?_⟩;have hlen:css.flatten.length=n*size:=by rw[He hc,hl]
 rcases h with rfl|⟨b,o,rfl,h⟩
 ·have:css=[]:=AQO hl
  subst this;cases a with
  |none=>rfl
  |some a=>
   simp only[Builtin.firstCells,Nat.zero_mul,AWd];rfl
 ·simp only[Builtin.firstCells]
  rw[←hlen];exact LL (h.heap e)
theorem AE4{P:Program}{w:World}{s:ACC}:kR P w 1 s.length (.string ⟨s.toArray⟩) (s.map fun c=>[Value.int .u8 (c.toNat:Int)]).flatten:=by
 refine⟨fun w' =>rfl,fun w' _=> ?_⟩;have PC:(⟨s.toArray⟩:ByteArray).size=s.length:=by rfl
 have e1:(⟨s.toArray⟩:ByteArray).extract 0 s.length=⟨s.toArray⟩:=by
  rw[←PC];apply ByteArray.ext;simp
 simp only[Builtin.firstCells,e1,Sem.run_pure];have:(s.map fun c=>[Value.int .u8 (c.toNat:Int)]).flatten=s.map fun c=>Value.int .u8 (c.toNat:Int):=by
  have:=XQ (l:=s.map fun c=>Value.int .u8 (c.toNat:Int));grind[List.map_map,Function.comp_def]
 simp_all
theorem nW{w:World}{S:Nat→Prop}{d:Nat}{r:Ty}{v:Value}{rows:List r.D}{F:AA4}(h:Ow w S (d+1) (.sl r) [v] rows F):
  ∃a cap css Fs R,v= .slice a rows.length cap∧rows.length≤cap∧FK w S d r css rows Fs∧F.Perm (Fs.flatten++R)∧
   ((cap=0∧F=[])∨ ∃b o arr ty fr,a=some ⟨b,o,none⟩∧w.heap[b]? =some (.cells arr ty fr)∧o+cap*r.n≤arr.size∧vy fr (arr.size+mk r)∧F=b::Fs.flatten∧Bc w b o css.flatten):=by
 simp only[Ow]at h;obtain⟨a,cap,e,hle,h⟩:=h;simp only[AQj,ATG]at e;subst e;rcases h with⟨h,rfl⟩|⟨b,o,arr,ty,fr,Fs,rfl,hb,PC,hu,rfl,hFl,hr⟩
 ·have:rows=[]:=AQO (by omega)
  subst this;exact⟨a,cap,[],[],[],rfl,hle,⟨rfl,rfl,by simp,fun i cs y G h=>by simp at h⟩,by simp,.inl ⟨h,rfl⟩⟩
 ·
  have key:∀(n o:Nat) (ys:List r.D) (Fs:List AA4),ys.length=n→Fs.length=n→(∀(i:Nat) (y:r.D) (G:AA4),ys[i]? =some y→Fs[i]? =some G→ ∃cs,cs.length=r.n∧Bc w b (o+i*r.n) cs∧Ow w S d r cs y G)→
    ∃css,FK w S d r css ys Fs∧Bc w b o css.flatten:=by
   intro n
   induction n with
   |zero=>
    intro o ys Fs h1 h2 _;obtain rfl:=AQO h1;obtain rfl:=AQO h2;exact⟨[],⟨rfl,rfl,by simp,fun i cs y G h=>by simp at h⟩,fun _ _ h=>by simp at h⟩
   |succ n ih=>
    intro o ys Fs h1 h2 hh;obtain⟨y,ys,rfl⟩:=AXE h1;obtain⟨G,Fs,rfl⟩:=AXE h2;obtain⟨cs,c1,c2,c3⟩:=hh 0 y G rfl rfl;obtain⟨css,d1,d2⟩:=ih (o+r.n) ys Fs (by simp_all) (by simp_all) (fun i z G hz hG=>by
     obtain⟨cs,e1,e2,e3⟩:=hh (i+1) z G (by simp_all) (by simp_all);grind)
    refine⟨cs::css,⟨by simp[d1.1],by omega,fun c hc=> ?_,fun i dM y' G' a b c=> ?_⟩,?_⟩
    ·rcases ANv.1 hc with rfl|hc
     ·omega
     ·exact d1.2.2.1 c hc
    ·cases i with
     |zero=>simp_all
     |succ i=>exact d1.2.2.2 i dM y' G' (by simp_all) (by simp_all) (by simp_all)
    grind[List.flatten_cons,Bc.append]
  obtain⟨css,k1,k2⟩:=key rows.length o rows Fs rfl hFl hr;refine⟨_,cap,css,Fs,[b],rfl,hle,k1,?_,.inr ⟨b,o,arr,ty,fr,rfl,hb,PC,hu,rfl,k2⟩⟩;grind
theorem jx{w:World}{S:Nat→Prop}:∀{r:Ty} {cs:List Value} {x:r.D},Rd w S r cs x→Ow w S 0 r cs x []
 | .cons c r,cs,x,hr=>by
  simp only[Rd]at hr;obtain⟨v,l,rfl,h1,h2⟩:=hr;simp only[Ow];exact⟨v,l,[],[],rfl,rfl,jx h1,jx h2⟩
 | .unit,_,_,hr=>by grind[Rd,Ow]
 | .int k,_,_,hr=>by grind[Rd,Ow]
 | .bool,_,_,hr=>by grind[Rd,Ow]
 | .str,_,_,hr=>by grind[Rd,Ow]
 | .sl q,_,_,hr=>by simp only[Ow];simp_all
theorem fO{P:Program}{E:Env}{w:World}{vw bx:List Bx}{G:AA4}(h:C9 E w vw bx G)(hw:FH bx vw){x:AV}{v:Value}(hv:VR E w vw x v){r:Ty}{rows:List r.D}{QS:List Bx}{d:Nat}
  (e:nX bx x=some ⟨r,rows,QS,d⟩):1≤d∧ ∃E' F css Fs R,G2 E w vw bx G E' QS F∧F.Perm (List.flatten Fs++R)∧FK w E'.S (d-1) r css rows Fs∧kR P w r.n rows.length v css.flatten:=by
 have plain:∀{B:Nat→Prop} {ys:List r.D},r.flat=true→Rd w B (.sl r) [v] ys→ ∀S:Nat→Prop,∃css,FK w S 8 r css ys (List.replicate ys.length [])∧kR P w r.n ys.length v css.flatten:=by
  intro B ys hf hr S;simp only[Rd]at hr;obtain⟨a,cap,e1,hle,hr⟩:=hr;simp only[AQj,ATG]at e1;subst e1;rcases hr with hr|⟨b,o,rfl,_,hr⟩
  ·have:ys=[]:=AQO hr
   subst this;exact⟨[],⟨rfl,rfl,by simp,fun i cs y G h=>by simp at h⟩,QM (css:=[]) rfl (by simp) (.inl rfl)⟩
  ·obtain⟨css,c1,c2,c3,c4⟩:=qm hr
   exact⟨css,FK.flat hf c1 c2 c4,QM c1 c2 (.inr ⟨b,o,rfl,c3⟩)⟩
 have done:∀{B:Nat→Prop} {ys:List r.D},r.flat=true→Rd w B (.sl r) [v] ys→rows=ys→QS=bx→d=9→
   1≤d∧ ∃E' F css Fs R,G2 E w vw bx G E' QS F∧F.Perm (List.flatten Fs++R)∧FK w E'.S (d-1) r css rows Fs∧kR P w r.n rows.length v css.flatten:=by
  intro B ys hf hr e1 e2 e3;subst e1 e2 e3;obtain⟨css,k1,k2⟩:=plain hf hr E.S;exact⟨by omega,E,[],css,_,[],G2.refl h,by simp,k1,k2⟩
 unfold nX at e;split at e
 ·rename_i s
  simp only[AMF,AM9]at e;obtain⟨rfl,e⟩:=e;have e:=ARx e;simp only[APv]at e;obtain⟨rfl,rfl,rfl⟩:=e;have X5:=XW hv;subst X5;refine⟨by omega,E,[],s.map fun c=>[Value.int .u8 (c.toNat:Int)],_,[],G2.refl h,?_,FK.flat (B:=fun _=>False) rfl (by simp) (by simp[Ty.n]) (fun i cs y a b=> ?_),?_⟩
  ·simp
  ·simp only[ASJ,AMI]at a b
   obtain⟨c1,z1,rfl⟩:=a;obtain⟨c2,z2,rfl⟩:=b;grind[Rd]
  grind[AE4,Ty.n]
 ·rename_i s q ys
  split at e
  ·rename_i hf
   simp only[AMF,AM9]at e;obtain⟨rfl,e⟩:=e;have e:=ARx e;simp only[APv]at e;obtain⟨rfl,rfl,rfl⟩:=e;exact done hf hv rfl rfl rfl
  ·split at e
   case isFalse=>cases e
   rename_i hs;simp only[AMF,AM9]at e;obtain⟨rfl,e⟩:=e;have e:=ARx e;simp only[APv]at e;obtain⟨rfl,rfl,rfl⟩:=e;subst hs;simp only[VR,AS_]at hv;simp only[Rd]at hv;obtain⟨a,cap,e1,hle,hr⟩:=hv;simp only[AQj,ATG]at e1;subst e1;have key:∃css:List (List Value),List.length css=ys.length∧(∀c∈css,c.length=q.n)∧(∀(i:Nat) cs y,css[i]? =some cs→ys[i]? =some y→Rd w E.S q cs y)∧kR P w q.n ys.length (.slice a ys.length cap) css.flatten:=by
    rcases hr with hr|⟨b,o,rfl,_,hr⟩
    ·have:ys=[]:=AQO hr
     subst this;exact⟨[],rfl,by simp,fun i cs y h=>by simp at h,QM (css:=[]) rfl (by simp) (.inl rfl)⟩
    ·obtain⟨css,c1,c2,c3,c4⟩:=qm hr
     exact⟨css,c1,c2,c4,QM c1 c2 (.inr ⟨b,o,rfl,c3⟩)⟩
   obtain⟨css,c1,c2,c3,c4⟩:=key;refine⟨AQW _,E,[],css,List.replicate ys.length [],[],G2.refl h,by simp,⟨c1,by simp,c2,fun i cs y G a b c=> ?_⟩,c4⟩;grind[List.mem_of_getElem?,jx]
 ·rename_i b
  split at e
  case h_2=>cases e
  rename_i d0 q ys hb;split at e
  ·rename_i hf
   simp only[AMF,AM9]at e;obtain⟨rfl,e⟩:=e;have e:=ARx e;simp only[APv]at e;obtain⟨rfl,rfl,rfl⟩:=e;obtain⟨Fs,hB,hS⟩:=h;exact done hf (Zh hw hB hS.st hv (q:=q) (ys:=ys) (by simp[M_,hb,Gy])) rfl rfl rfl
  ·simp only[AMF,AM9]at e
   obtain⟨rfl,e⟩:=e;have e:=ARx e;simp only[APv]at e;obtain⟨rfl,rfl,rfl⟩:=e;obtain⟨F,⟨hd,ho⟩,hB⟩:=h.take hb;have hvw:=Yx hw hb;simp only[VR,hvw,C8,AMF]at hv;obtain⟨_,_,_,rfl⟩:=hv;obtain⟨m,rfl⟩:∃m,d0=m+1:=⟨d0-1,by omega⟩;obtain⟨a,cap,css,Fs,R,e1,hle,cK,hp,hcase⟩:=nW ho;refine⟨hd,E,F,css,Fs,R,⟨Le.refl _,by simp,fun n B hn=> ?_,hB⟩,hp,cK,?_⟩
   ·grind
   ·rw[e1]
    refine QM cK.1 cK.2.2.1 ?_
    grind
 ·rename_i b p _
  split at e
  case h_2=>cases e
  rename_i d0 q ys hb;simp only[AMQ]at e;obtain⟨⟨q',zs⟩,e1,e⟩:=e;dsimp only at e;split at e
  case isFalse=>cases e
  rename_i hf;simp only[AMF,AM9]at e;obtain⟨rfl,e⟩:=e;have e:=ARx e;simp only[APv]at e;obtain⟨rfl,rfl,rfl⟩:=e;obtain⟨Fs,hB,hS⟩:=h;exact done hf (Zh hw hB hS.st hv (q:=q') (ys:=zs) (by simp[M_,hb,e1])) rfl rfl rfl
 ·rename_i b p off n
  split at e
  case h_2=>cases e
  rename_i d0 q ys hb;simp only[AMQ]at e;obtain⟨⟨q',zs⟩,e1,e⟩:=e;dsimp only at e;split at e
  case isFalse=>cases e
  rename_i hf;simp only[AMF,AM9]at e;obtain⟨rfl,e⟩:=e;have e:=ARx e;simp only[APv]at e;obtain⟨rfl,rfl,rfl⟩:=e;obtain⟨Fs,hB,hS⟩:=h;exact done hf (Zh hw hB hS.st hv (q:=q') (ys:=(zs.drop off).take n) (by simp[M_,hb,e1])) rfl rfl rfl
 simp_all
theorem fF{E:Env}{w:World}{vw bx:List Bx}{G:AA4}(h:C9 E w vw bx G)(hw:FH bx vw){x:AV}{v:Value}(hv:VR E w vw x v){r:Ty}{rows:List r.D}{QS:List Bx}{d:Nat}
  (e:nT bx x=some ⟨r,rows,QS,d⟩):1≤d∧ ∃F1 F2,G2 E w vw bx G E QS (F1++F2)∧Ow w E.S d (.sl r) [v] rows F1:=by
 have tk:∀{b d0:Nat} {q:Ty} {ys:List q.D},bx[b]? =some (.sl d0 q ys)→ ∃F,1≤d0∧Ow w E.S d0 (.sl q) [E.Hl b] ys F∧G2 E w vw bx G E (bx.set b .dead) F:=by
  intro b d0 q ys hb;obtain⟨F,⟨hd,ho⟩,hB⟩:=h.take hb;refine⟨F,hd,ho,⟨Le.refl _,by simp,fun n B hn=> ?_,hB⟩⟩;grind
 unfold nT at e;split at e
 ·rename_i b
  split at e
  case h_2=>cases e
  rename_i d0 q ys hb;simp only[AMF,AM9]at e;obtain⟨rfl,e⟩:=e;have e:=ARx e;simp only[APv]at e;obtain⟨rfl,rfl,rfl⟩:=e;obtain⟨F,hd,ho,hT⟩:=tk hb;have hvw:=Yx hw hb;simp only[VR,hvw,C8,AMF]at hv;obtain⟨_,_,_,rfl⟩:=hv;exact⟨hd,F,[],by simp_all,ho⟩
 ·rename_i b off n
  split at e
  case h_2=>cases e
  rename_i d0 q ys hb;simp only[AMF,AM9]at e;obtain⟨rfl,e⟩:=e;have e:=ARx e;simp only[APv]at e;obtain⟨rfl,rfl,rfl⟩:=e;obtain⟨F,hd,ho,hT⟩:=tk hb;have hvw:=Yx hw hb;simp only[VR,hvw,C8,AMF]at hv;obtain⟨_,_,q',zs,a,len,cap,h1,h2,h3,rfl⟩:=hv;simp only[Gy,AMF,AM9]at h1;obtain⟨rfl,h1⟩:=h1;obtain rfl:=ARx h1;rw[h3]at ho;obtain⟨m,rfl⟩:∃m,d0=m+1:=⟨d0-1,by omega⟩;obtain⟨F1,F2,hp,vZ⟩:=AE8 ho h2;exact⟨hd,F1,F2,⟨hT.le,hT.len,hT.within,hT.boxes.perm (AU4 _ hp)⟩,vZ⟩
 simp_all
end Go.Fw
end
section
namespace Go.Fw
theorem fA{P:Program}{w:World}{a:Option Addr}{n cap size:Nat}{css:List (List Value)}(hl:css.length=n)(hc:∀c∈css,c.length=size)
  (h:n=0∨ ∃b o,a=some ⟨b,o,none⟩∧Bc w b o css.flatten):∀w',w'.heap=w.heap→(Builtin.firstCells size n (.slice a n cap)).run P w' = .ok css.flatten.toArray w':=
 (QM (P:=P) (cap:=cap) hl hc h).cells
theorem ZD{z:Array Value}{n:Nat}:(Builtin.zeroCells z n).size=n*z.size:=size_zeroCells z n
section
variable{Y:Type} {P:Program} {T:JY} (hT:Eo P T) {o:Oper} {E:Env} {σ:St} {a:Act} {w:World} {k:K Y} {y:Y}
include hT
theorem mD(h:Rel E σ a w){E2:Env}{aM:List Bx}{F Fd R:AA4}{t u ty:TypeId}{ts:Array TypeId}(wh:ts[0]? =some t)(xO:ts[1]? =some u)
  (hu:(∃e,P.underlying u=some (.slice e))∨P.underlying u=some .string) {m:Nat} {r:Ty} (T7:T.M6 t r=true)
  (kT:G2 E w σ.bx σ.bx [] E2 aM F) {v1 v2:Value} {drows Rh:List r.D} {css:List (List Value)} {Fs:List AA4}
  (ho:Ow w E2.S (m+1) (.sl r) [v1] drows Fd) (hs:FK w E2.S m r css Rh Fs) (hn:kR P w r.n Rh.length v2 css.flatten) (hp:F.Perm (Fd++Fs.flatten++R)) (Zk:drows.length+Rh.length≤Dr):
  ∃v w' E',(Builtin.append_ ts ty #[v1,v2]).run P w= .ok v w'∧Rel E' { σ with bx:=aM++[.sl (m+1) r (drows++Rh)] } a w'∧Q5 [] E σ.bx w E' (aM++[.sl (m+1) r (drows++Rh)]) w'∧
   XR E' w' (aM++[.sl (m+1) r (drows++Rh)]) (.c (.ref aM.length [])) v:=by
 obtain⟨e,ti,hut,Um,hs1,hby,hrow⟩:=J6 hT T7;obtain⟨i,z,i1,i2,i3,i4,i5,hg⟩:=WQ hT Um hrow;rw[hs1]at i2;obtain⟨Fs0,hB1,Xg⟩:=kT.boxes;simp only[AM5]at Xg;have hdF:∀c∈Fd,c∈F:=fun c hc=>hp.mem_iff.2 (by simp[hc])
 have hsF:∀c∈Fs.flatten,c∈F:=fun c hc=>hp.mem_iff.2 (by simp_all)
 have ndF:=(ANN.1 (hp.nodup_iff.1 (ANN.1 Xg.nodup).2.1)).1;have ltF:∀c∈F,c<w.heap.size:=fun c hc=>Xg.lt c (by simp_all)
 have Ach:∀c∈F,¬E2.S c:=fun c hc hS=>Xg.free c (by simp_all) (Xg.st c hS)
 have ho0:=ho;obtain⟨ad,cap,dcss,Fs1,R1,rfl,hle,hd,hp1,hcase⟩:=nW ho;have cO:css.flatten.length=Rh.length*r.n:=by rw[He hs.2.2.1,hs.1]
 have hdl:dcss.flatten.length=drows.length*r.n:=by rw[He hd.2.2.1,hd.1]
 by_cases Sk:drows.length+Rh.length≤cap
 ·rcases hcase with⟨h0,hF0⟩|⟨b,of,arr,ty0,fr,rfl,hb,PC,hunf,rfl,hc⟩
  ·
   have hd0:drows=[]:=AQO (by omega);have hs0:Rh=[]:=AQO (by omega);subst hd0 hs0;have hc0:css=[]:=AQO hs.1;subst hc0 h0;have iN:=mi (P:=P) (w:=w) (ty:=ty) wh xO hut hu i1 i2 (a:=ad) (x:=v2) (by simp_all);obtain⟨r1,r2,r3⟩:=TA h kT (w':=w) (d:=m+1) (by omega) ho0 (fun c hc=> .inl (hdF c hc)) (ANN.1 ndF).1 (fun c hc=>ltF c (hdF c hc)) (fun _ _ _=>rfl) ⟨rfl,rfl,rfl,AQW _⟩;grind
  ·
   have cU:of+drows.length*r.n+css.flatten.length≤arr.size:=by
    have:(drows.length+Rh.length)*r.n≤cap*r.n:=AOr _ Sk;grind
   have iN:=fT (P:=P) (w:=w) (ty:=ty) wh xO hut hu i1 i2 (b:=b) (o:=of) hn Sk (US hb cU hunf) hs.one;have hbF:b∈F:=hdF b (by simp);have cF:∀c,c∈Fs1.flatten∨c∈Fs.flatten∨E2.S c→c≠b:=by
    grind
   have cy:∀c,c≠b→(w.setCells b (of+drows.length*r.n) css.flatten).heap[c]? =w.heap[c]?:=fun c hc=>DP _ _ _ _ _ hc
   have xP:=hd.mono (w':=w.setCells b (of+drows.length*r.n) css.flatten) (S':=E2.S) (fun _ h=>h) (fun c hc=>cy c (cF c (.inr (.inr hc)))) (fun c hc=>cy c (cF c (.inl hc)));have xi:=hs.mono (w':=w.setCells b (of+drows.length*r.n) css.flatten) (S':=E2.S) (fun _ h=>h) (fun c hc=>cy c (cF c (.inr (.inr hc)))) (fun c hc=>cy c (cF c (.inr (.inl hc))));have fl:=xP.append xi;have AEX:Bc (w.setCells b (of+drows.length*r.n) css.flatten) b of (dcss++css).flatten:=by
    grind[List.flatten_append,Bc.append,T2,ON]
   have how:Ow (w.setCells b (of+drows.length*r.n) css.flatten) E2.S (m+1) (.sl r) [.slice (some ⟨b,of,none⟩) (drows.length+Rh.length) cap] (drows++Rh) (b::(Fs1++Fs).flatten):=by
    simp only[Ow];refine⟨_,cap,by rw[APB],by simp_all,.inr ⟨b,of,_,ty0,fr,Fs1++Fs,rfl,FY _ _ _ _ _ _ _ hb,by rw[Fa];omega,by rw[Fa];omega,rfl,fl.2.1,fun j q G hq hG=> ?_⟩⟩;have hj:=(AMK.1 hq).1;have h1:=fl.1;have qu:j<(dcss++css).length:=by omega
    refine⟨(dcss++css)[j],fl.2.2.1 _ (AMh _),fun x u hx=> ?_,fl.2.2.2 j _ _ _ (AL5 qu) hq hG⟩;have hxl:=(AMK.1 hx).1;rw[fl.2.2.1 _ (AMh _)]at hxl;have:=Xy (n:=r.n) (css:=dcss++css) (ex:=[]) (i:=j) fl.2.2.1 (AL5 qu) hxl;rw[AM5,hx]at this;have:=AEX _ _ this;grind
   have pz:(b::(Fs1++Fs).flatten)=(b::Fs1.flatten)++Fs.flatten:=by simp
   rw[pz]at how;obtain⟨r1,r2,r3⟩:=TA h kT (w':=w.setCells b (of+drows.length*r.n) css.flatten) (d:=m+1) (by omega) how (fun c hc=> .inl ((AOs.1 hc).elim (hdF c) (hsF c))) ndF
    (fun c hc=>by grind[DY]) (fun c hc hcF=>cy c (fun e=>hcF (e▸hbF))) (B_ _ _ _ _)
   grind
 ·
  have hold:drows.length=0∨ ∃b o,ad=some ⟨b,o,none⟩∧Bc w b o dcss.flatten:=by
   grind
  have iN:=bo (P:=P) (w:=w) (ty:=ty) wh xO hut hu i1 i4 i2 (fA (P:=P) (cap:=cap) hd.1 hd.2.2.1 hold) hn (by omega) Zk (by omega);have hge:=grownCap_ge w (drows.length+Rh.length) cap e
  generalize hgc:grownCap w (drows.length+Rh.length) cap e=gc at iN hge
  let arr:Array Value:=dcss.flatten.toArray++css.flatten.toArray++Builtin.zeroCells z.cells (gc-(drows.length+Rh.length))
  have cR:arr.toList=(dcss++css).flatten++(Builtin.zeroCells z.cells (gc-(drows.length+Rh.length))).toList:=by simp[arr]
  have hzl:z.cells.size=r.n:=by rw[←AWN,i5,Gp]
  have AaU:arr.size=gc*r.n:=by
   simp only[arr,AXO,AXP,ZD,hzl,cO,hdl,←ATn];simp_all
  let w':=w.drew.alloc (.cells arr e)
  have new:w'.heap[w.heap.size]? =some (.cells arr e):=by
   show(w.heap.push (.cells arr e))[w.heap.size]? =_
   simp
  have AEy:∀c,c<w.heap.size→w'.heap[c]? =w.heap[c]?:=fun c hc=>Ih (w:=w) (o:= .cells arr e) hc
  have hR1:∀c∈Fs1.flatten,c∈Fd:=fun c hc=>hp1.mem_iff.2 (by simp_all)
  have xP:=hd.mono (w':=w') (S':=E2.S) (fun _ h=>h) (fun c hc=>AEy c (Xg.cS c (Xg.st c hc))) (fun c hc=>AEy c (ltF c (hdF c (hR1 c hc))));have xi:=hs.mono (w':=w') (S':=E2.S) (fun _ h=>h) (fun c hc=>AEy c (Xg.cS c (Xg.st c hc))) (fun c hc=>AEy c (ltF c (hsF c hc)));have fl:=xP.append xi;have how:Ow w' E2.S (m+1) (.sl r) [.slice (some ⟨w.heap.size,0,none⟩) (drows++Rh).length gc] (drows++Rh) (w.heap.size::(Fs1++Fs).flatten):=
   cY new cR fl.1 (by simp_all) (by omega) (WM _) fl.2.1 fl.2.2.2
  rw[APB]at how;have PY:∀c∈(Fs1++Fs).flatten,c∈Fd++Fs.flatten:=by
   grind
  have nd1:(Fs1++Fs).flatten.Nodup:=by
   grind
  have Aet:∀c∈(Fs1++Fs).flatten,c∈F:=fun c hc=>(AOs.1 (PY c hc)).elim (hdF c) (hsF c)
  obtain⟨r1,r2,r3⟩:=TA h kT (w':=w') (d:=m+1) (by omega) how (by
    simp_all) (by
    grind) (by
    grind) (fun c hc _=>AEy c hc) ⟨rfl,rfl,rfl,by simp[w']⟩
  grind
end
end Go.Fw
end
section
namespace Go.Fw
theorem XH{α β:Type}{args:Array α}{f:α→β}{x y:β}(h:args.toList.map f=[x,y]):∃a b,args= #[a,b]∧f a=x∧f b=y:=by
 obtain⟨l⟩:=args
 match l,h with
 |[a,b],h=>grind
theorem XL{α β:Type}{args:Array α}{f:α→β}{x:β}(h:args.toList.map f=[x]):∃a,args= #[a]∧f a=x:=by
 obtain⟨l⟩:=args;simp_all
section
variable{Y:Type} {P:Program} {T:JY} (hT:Eo P T) {o:Oper} {E:Env} {σ:St} {a:Act} {w:World} {k:K Y} {y:Y}
include hT
theorem wv(h:Rel E σ a w){c:Call}{x1 x2:XV}(ho:o.op= .call c)(hc:c.callee= .builtin .append)(H_:c.args.toList.map σ.ev=[x1,x2])(e:dx T c.argTypes σ x1 x2 k=some y):LZ P o E σ a w k y:=by
 obtain⟨o1,o2,hargs',rfl,rfl⟩:=XH H_;have bd:=h.ev o1;have Zv:=h.ev o2;have exec:∀{v w'},(Builtin.append_ c.argTypes o.type #[a.eval o1,a.eval o2]).run P w= .ok v w'→(execOp a.eval o).run P w= .ok (.value v) w':=by
  intro v w' hr;simp only[execOp,ho,resolve,hc,hargs',invoke,builtin,Sem.run_bind,Sem.run_pure,Result.andThen_ok,List.map_toArray,AVJ,AXI,hr]
 unfold dx at e;split at e
 case h_2=>cases e
 rename_i t u wh xO;split at e
 case isFalse=>cases e
 rename_i hu;have hu':(∃e,P.underlying u=some (.slice e))∨P.underlying u=some .string:=by
  rw[AS8]at hu;grind[lV,XG]
 split at e
 ·
  rename_i z hz1 hz2;rw[hz1]at bd;rw[hz2]at Zv;simp only[AMQ]at e;obtain⟨⟨r,rows,QS,d⟩,e1,e⟩:=e;dsimp only at e;split at e
  case isFalse=>cases e
  rename_i T7;split at e
  case isFalse=>cases e
  rename_i Zk;obtain⟨hd,E',F,css,Fs,R,kT,hp,hs,hn⟩:=fO (P:=P) h.bx (FH.refl _) Zv e1;obtain⟨m,rfl⟩:∃m,d=m+1:=⟨d-1,by omega⟩;have AZD:a.eval o1= .slice none 0 0:=bd;obtain⟨v,w',E3,hr,r1,r2,r3⟩:=mD hT h (ty:=o.type) wh xO hu' T7 kT (v1:= .slice none 0 0) (Fd:=[]) (drows:=[]) qb hs hn (R:=R) (by simp_all) (by simp_all);rw[←AZD]at hr;simp only[ATA]at r1 r3;exact⟨_,_,_,_,_,.inl (exec hr),r1,r3,r2.any,rfl,e⟩
 ·rename_i z1 z2 zU hz1 hz2
  rw[hz1]at bd;rw[hz2]at Zv;simp only[AMQ]at e;obtain⟨⟨r,rows,ji,d⟩,e1,e⟩:=e;dsimp only at e;split at e
  case isFalse=>cases e
  rename_i T7;simp only[AMQ]at e;obtain⟨⟨q,srows0,aM,ds⟩,e2,Rh,e3,e⟩:=e;dsimp only at e e3;obtain⟨hqr,e4⟩:=Hz e3;subst hqr;subst e4;dsimp only at e;split at e
  case isFalse=>cases e
  rename_i Zk;obtain⟨hd,F1,F2,k1,ho1⟩:=fF h.bx (FH.refl _) bd e1;obtain⟨hds,E',F3,css,Fs,R,k2,hp,hs,hn⟩:=fO (P:=P) k1.boxes ((FH.refl _).p_ k1) Zv e2;obtain⟨m,hm⟩:∃m,min d ds=m+1:=⟨min d ds-1,by omega⟩;rw[hm]at e;obtain⟨A,W1,p1,ho1'⟩:=Jm (d:=m+1) (by omega) ho1;obtain⟨Gs,W2,p2,xi⟩:=hs.weaken (d':=m) (by omega);have hB:=k2.boxes.perm (G':=(A++Gs.flatten++(R++F2))++(W1++W2)++[]) (by
   grind)
  obtain⟨hle,Xg⟩:=hB.share;have kT:G2 E w σ.bx σ.bx [] _ aM (A++Gs.flatten++(R++F2)):=⟨(k1.le.trans k2.le).trans hle,k2.len.trans k1.len,fun b B hb=>(k2.within b B hb).elim .inl (k1.within b B),Xg⟩;have ho2:Ow w (fun c=>E'.S c∨c∈W1++W2) (m+1) (.sl q) [a.eval o1] rows A:=
   EX (fun c hc=>hc.imp (k2.le.S c) (by simp_all)) (fun _ _=>rfl) (fun _ _=>rfl) ho1'
  have hs2:FK w (fun c=>E'.S c∨c∈W1++W2) m q css srows0 Gs:=xi.mono (fun c hc=>hc.imp id (by simp_all)) (fun _ _=>rfl) (fun _ _=>rfl);obtain⟨v,w',E3,hr,r1,r2,r3⟩:=mD hT h (ty:=o.type) wh xO hu' T7 kT ho2 hs2 hn (AXe _) Zk;exact⟨_,_,_,_,_,.inl (exec hr),r1,r3,r2.any,rfl,e⟩
 simp_all
end
end Go.Fw
end
section
namespace Go.Fw
theorem nS{P:Program}{w:World}{b o:Nat}{ty:TypeId}{v:Value}(ht:w.there b o v.cells.toList.length)(hi:(P.info? ty).map (·.size)=some v.cells.toList.length)(h1:∀u∈v.cells.toList,u.oneCell' =true):
  (Instr.storeAt ty (.pointer (some ⟨b,o,none⟩)) v).run P w= .ok () (w.setCells b o v.cells.toList):=by
 have:=run_storeCells_cells (P:=P) b o v.cells.toList 0 w (fun j hj=>by simpa using(ht j hj).1) (fun j hj=>by simpa using(ht j hj).2) h1;cases hq:P.info? ty with
 |none=>simp_all
 |some i=>
  have hs:v.cells.size=i.size:=by simp_all
  simp only[AUN]at this;simp[Instr.storeAt,Instr.sureAddr,storeVar,sizeOf,typeInfo,hq,hs,this]
theorem aa{E E1 E':Env}{w w':World}{vw ji QS:List Bx}{F:AA4}(b0:Nat)(k:G2 E w vw vw [] E1 ji F)(st:∀c,E.S c→E.T c)(hlen:vw.length≤QS.length)
  (vX:∀b d r rows,b≠b0→b<vw.length→QS[b]? =some (.sl d r rows)→ji[b]? =some (.sl d r rows)) (AFX:∀b,b<vw.length→E'.Hk b=E1.Hk b) (mv:∀b,b<vw.length→E'.Hl b=E1.Hl b) (hT:E'.T=E1.T) (hS:E'.S=E1.S)
  (hw:∀c,c<w.heap.size→c∉F→w'.heap[c]? =w.heap[c]?)
  (h0:∀d r rows,QS[b0]? =some (.sl d r rows)→ ∃d0 Rz,vw[b0]? =some (.sl d0 r Rz)∧
   ∀p,DA r Rz p→ ∀q ys,Gy r Rz p=some ⟨q,ys⟩→DA r rows p∧(∃vU,Gy r rows p=some ⟨q,vU⟩∧List.length vU=List.length ys)∧
    ∀h,Ij w (E.Hl b0) p=some h→Ij w' (E'.Hl b0) p=some h):SW E w vw E' w' QS:=by
 have hB:=k.boxes;obtain⟨Fs,⟨h1,h2⟩,h3⟩:=hB;simp only[AM5]at h3;have x_:∀c,E1.T c→w'.heap[c]? =w.heap[c]?:=fun c hc=>hw c (h3.cS c hc) fun hf=>h3.free c (by simp[hf]) hc
 refine⟨hlen,fun b hb=>by rw[AFX b hb,k.le.Hk],fun c hc=>by rw[hT];exact k.le.T c hc,fun c hc=>by rw[hS];exact k.le.S c hc,st,fun c hc=>x_ c (k.le.T c hc),fun b d r rows hb e=> ?_⟩;by_cases hb0:b=b0
 ·simp_all
 have e1:=vX b _ _ _ hb0 hb e;rcases k.within b _ e1 with e2|e2
 ·cases e2
 ·refine⟨d,rows,e2,fun p hp q ys hg=>⟨hp,⟨ys,hg,rfl⟩,fun h' hh=> ?_⟩⟩
  have hF:Fs[b]? =some (Fs[b]'(by grind)):=AL5 _;obtain⟨hd,ho⟩:=h2 b _ _ e1 hF;rw[mv b hb];rw[←k.le.Hl]at hh;refine uE ho (fun c hc=>x_ c (h3.st c hc)) (fun c hc=> ?_) hp hg hh;have PY:c∈Fs.flatten:=ASw.2 ⟨_,ANi hF,hc⟩;exact hw c (h3.lt c (by simp[PY])) fun hf=>(ANN.1 h3.nodup).2.2 c PY c hf rfl
def Bx.map(f:AV→AV):Bx→Bx
 | .mem cs=> .mem (cs.map f)
 |B=>B
theorem C9.AVA{E E':Env}{w w':World}{vw vw' bx:List Bx}{G:AA4}(f:AV→AV)(h:C9 E w vw bx G)(k:∀x v,VR E w vw x v→VR E' w' vw' (f x) v)
  (hS:∀c,E.S c→E'.S c) (AFX:∀b,b<bx.length→E'.Hk b=E.Hk b) (mv:∀b,b<bx.length→E'.Hl b=E.Hl b)
  (hw:∀c,(E.S c∨(¬E.T c∧c∉G))→c<w.heap.size→w'.heap[c]? =w.heap[c]?)
  (AE0:∀F,Sep E w (F++G)→Sep E' w' (F++G)):C9 E' w' vw' (bx.map (Bx.map f)) G:=by
 obtain⟨Fs,⟨hl,h1⟩,h2⟩:=h;refine⟨Fs,⟨by simp_all,fun n B F hn hF=> ?_⟩,AE0 _ h2⟩;rw[ASJ,AMI]at hn;obtain⟨B,hn,rfl⟩:=hn;have Kg:=(AMK.1 hn).1;have h3:=h1 n B F hn hF;have ARw:∀c∈F,c∈Fs.flatten:=fun c hc=>ASw.2 ⟨F,ANi hF,hc⟩
 have hFw:∀c∈F,w'.heap[c]? =w.heap[c]?:=fun c hc=>hw c (.inr ⟨h2.free c (by simp_all),fun hg=>by
  have:=(ANN.1 h2.nodup).2.2 c (ARw c hc) c hg;omega⟩) (h2.lt c (by simp_all))
 have rv:∀c,E.S c→w'.heap[c]? =w.heap[c]?:=fun c hc=>hw c (.inl hc) (h2.cS c (h2.st c hc))
 cases B with
 |mem cs=>
  obtain⟨rfl,arr,ty,fr,ha,hu,hv⟩:=h3;refine⟨by simp_all,arr,ty,fr,?_,hu,CT.K8 f k hv⟩;simp_all
 |sl d r rows=>
  obtain⟨hd,ho⟩:=h3;refine⟨hd,?_⟩;grind[EX]
 |dead=>exact h3
theorem Bx.map_id:∀B:Bx,Bx.map id B=B
 | .mem cs=>by simp[Bx.map]
 | .sl _ _ _=>rfl
 | .dead=>rfl
theorem Zn(bx:List Bx):bx.map (Bx.map id)=bx:=by
 induction bx with
 |nil=>rfl
 |cons B l ih=>simp[ih,Bx.map_id]
theorem mE(b:Nat)(bx:List Bx):bx.map (AAc b)=bx.map (Bx.map (JX b)):=by
 rfl
theorem ACe{E:Env}{σ:St}{a:Act}{w:World}(h:Rel E σ a w){b j:Nat}{cs dM:List AV}(hb:σ.bx[b]? =some (.mem cs)){xs:List AV}{vs:List Value}(hx:iz E w σ.bx xs vs)(cF:xs≠[])
  (e:Wx cs j xs=some dM):
  w.there (E.Hk b) j vs.length∧Rel E { σ with bx:=σ.bx.set b (.mem dM) } a (w.setCells (E.Hk b) j vs)∧Q5 [b] E σ.bx w E (σ.bx.set b (.mem dM)) (w.setCells (E.Hk b) j vs):=by
 have st:=h.bx.st;obtain⟨F,⟨rfl,arr,ty,fr,ha,hu,hv⟩,hB⟩:=h.bx.take hb;simp only[AM5]at hB;have Kg:=(AMK.1 hb).1;rcases WS hv hx e with⟨h1,h2⟩|⟨h1,_⟩
 case inr=>simp_all
 have cU:j+vs.length≤arr.size:=by
  have l1:=CT.len hv;have l2:=CT.len hx;simp_all
 have bY: ¬E.T (E.Hk b):=hB.AEd _ (by simp);have hB0:=hB;have cy:∀c,c≠E.Hk b→(w.setCells (E.Hk b) j vs).heap[c]? =w.heap[c]?:=fun c hc=>DP _ _ _ _ _ hc
 have hw:∀c,c<w.heap.size→c∉[E.Hk b]→(w.setCells (E.Hk b) j vs).heap[c]? =w.heap[c]?:=fun c _ hc=>cy c (by simp_all)
 have kT:G2 E w σ.bx σ.bx [] E (σ.bx.set b .dead) [E.Hk b]:=⟨Le.refl _,by simp,fun n B hn=>by
  grind,by simp_all⟩
 have keep:SW E w σ.bx E (w.setCells (E.Hk b) j vs) (σ.bx.set b (.mem dM)):=aa b kT st (by simp) (fun n d r rows hn _ hq=>by
   grind) (fun _ _=>rfl) (fun _ _=>rfl) rfl rfl hw (fun d r rows hq=>by
   simp_all)
 refine⟨US ha cU hu,⟨h.NT,h.tm.imp fun _ _ hq=>Og keep hq,?_⟩,⟨⟨fun _ h=>h,fun _ h=>h,fun _ h=> .inl h,fun _ h=> .inl h,fun c hc=>cy c (fun e=>bY (e▸hc)),(B_ _ _ _ _).os,(B_ _ _ _ _).tape,(B_ _ _ _ _).output,(B_ _ _ _ _).size⟩,by simp,fun _ _=>⟨rfl,rfl⟩,fun n hn=>by
  grind,fun n B B' qp hB TL qw=>by
  simp at qp;rw[AS4 (fun e=>qp e.symm),hB]at TL;cases TL;refine⟨Ux.refl qw,fun c hc=>cy c (fun e=> ?_)⟩;obtain⟨Fs,⟨f1,f2⟩,f3⟩:=hB0;have Xg:(σ.bx.set b .dead)[n]? =some B:=by grind
  have hF:Fs[n]? =some (Fs[n]'(by grind)):=AL5 _;rcases eR (f2 n B _ Xg hF) hc with hs|hs
  ·simp_all
  ·exact(ANN.1 f3.nodup).2.2 c (ASw.2 ⟨_,ANi hF,hs⟩) (E.Hk b) (by simp) e⟩⟩
 have hT:=hB.turn (E':=E) (w':=w.setCells (E.Hk b) j vs) (vw':=σ.bx.set b (.mem dM)) (fun x v hq=>GH keep hq) (fun _ h=>h) (fun _ _=>rfl) (fun _ _=>rfl) (fun c hc _=>cy c (fun e=>by
   simp_all)) (fun F hF=>⟨hF.nodup,hF.free,fun c hc=>by rw[DY];exact hF.lt c hc,hF.st,fun c hc=>by rw[DY];exact hF.cS c hc⟩)
 have:=C9.put (b:=b) (B:= .mem dM) (F:=[E.Hk b]) (G:=[]) (by simpa using hT) (by simp_all) ⟨rfl,FE arr j vs,ty,fr,FY _ _ _ _ _ _ _ ha,by rw[Fa];omega,h1.imp fun _ _ hq=>GH keep hq⟩;simp_all
theorem W_:∀{r:Ty} {j j':Nat} {x:r.D} {t:Ty} {y:t.D} {x':r.D},D6 r j x t y=some x'→j'≠j→BR r j' x' =BR r j' x
 | .cons c r,0,j',x,t,y,x',e,hj=>by
  simp only[D6]at e;split at e
  ·rename_i h
   subst h;simp only[AMF]at e;subst e;cases j' with
   |zero=>omega
   |succ j' =>rfl
  simp_all
 | .cons c r,j+1,j',x,t,y,x',e,hj=>by
  simp only[D6,AMI]at e;obtain⟨z,e1,rfl⟩:=e;cases j' with
  |zero=>rfl
  |succ j' =>
   simp only[BR];exact W_ e1 (by omega)
 | .unit,_,_,_,_,_,_,e,_=>by rfl
 | .int k,0,j',x,t,y,x',e,hj=>by cases j' with
  |zero=>omega
  |succ j' =>rfl
 | .bool,0,j',x,t,y,x',e,hj=>by cases j' with
  |zero=>omega
  |succ j' =>rfl
 | .str,0,j',x,t,y,x',e,hj=>by cases j' with
  |zero=>omega
  |succ j' =>rfl
 | .sl _,0,j',x,t,y,x',e,hj=>by cases j' with
  |zero=>omega
  |succ j' =>rfl
 | .int _,_+1,_,_,_,_,_,e,_=>by simp[D6]at e
 | .bool,_+1,_,_,_,_,_,e,_=>by simp[D6]at e
 | .str,_+1,_,_,_,_,_,e,_=>by simp[D6]at e
 | .sl _,_+1,_,_,_,_,_,e,_=>by simp[D6]at e
theorem T6:∀{r:Ty} {j:Nat} {x:r.D} {t:Ty} {y:t.D} {x':r.D},D6 r j x t y=some x'→BR r j x' =some ⟨t,y⟩∧ ∃y0:t.D,BR r j x=some ⟨t,y0⟩
 | .cons c r,0,x,t,y,x',e=>by
  simp only[D6]at e;split at e
  ·rename_i h
   subst h;simp only[AMF]at e;subst e;exact⟨rfl,_,rfl⟩
  simp_all
 | .cons c r,j+1,x,t,y,x',e=>by
  simp only[D6,AMI]at e;obtain⟨z,e1,rfl⟩:=e;simp only[BR];exact T6 e1
 | .unit,_,_,_,_,_,e=>by simp[D6]at e
 | .int k,0,x,t,y,x',e=>by
  simp only[D6]at e;split at e
  ·rename_i h;subst h;cases e;exact⟨rfl,_,rfl⟩
  simp_all
 | .bool,0,x,t,y,x',e=>by
  simp only[D6]at e;split at e
  ·rename_i h;subst h;cases e;exact⟨rfl,_,rfl⟩
  simp_all
 | .str,0,x,t,y,x',e=>by
  simp only[D6]at e;split at e
  ·rename_i h;subst h;cases e;exact⟨rfl,_,rfl⟩
  simp_all
 | .sl _,0,x,t,y,x',e=>by
  simp only[D6]at e;split at e
  ·rename_i h;subst h;cases e;exact⟨rfl,_,rfl⟩
  simp_all
 | .int _,_+1,_,_,_,_,e=>by simp[D6]at e
 | .bool,_+1,_,_,_,_,e=>by simp[D6]at e
 | .str,_+1,_,_,_,_,e=>by simp[D6]at e
 | .sl _,_+1,_,_,_,_,e=>by simp[D6]at e
theorem ku{r:Ty}{rows:List r.D}{i k:Nat}{x:r.D}(hi:i<rows.length):rowAt r (rows.set i x) k=if k=i then x else rowAt r rows k:=by
 unfold rowAt;grind
theorem qF:∀{p:List WN} {r:Ty} {rows Cz:List r.D} {q:Ty} {ys vU:List q.D},Gy r rows p=some ⟨q,ys⟩→vU.length=ys.length→o5 r rows p q vU=some Cz→Cz.length=rows.length
 |[],r,rows,Cz,q,ys,vU,h1,h2,h3=>by
  simp only[Gy,AMF,AM9]at h1;obtain⟨rfl,h1⟩:=h1;obtain rfl:=ARx h1;simp only[o5,AXR,Qy,AMF]at h3;simp_all
 |s::p,r,rows,Cz,q,ys,vU,h1,h2,h3=>by
  simp only[o5]at h3;split at h3
  ·simp only[AMQ,AMI]at h3
   grind
  simp_all
theorem lp{t:Ty}(ht:t.scalar=true){y:t.D}{q:Ty}{i j:Nat}:∀{p':List WN} {r:Ty} {rows Cz:List r.D} {p:List WN} {ys:List q.D} {Zs:q.D},DA r rows p→Gy r rows p=some ⟨q,ys⟩→i<ys.length→
  D6 q j (rowAt q ys i) t y=some Zs→o5 r rows p q (ys.set i Zs)=some Cz→DA r rows p'→ ∀q' zs,Gy r rows p' =some ⟨q',zs⟩→
   DA r Cz p'∧ ∃zs',Gy r Cz p' =some ⟨q',zs'⟩∧List.length zs' =List.length zs
 |[],r,rows,Cz,p,ys,Zs,_,hg,hi,hc,hs,_,q',zs,xj=>by
  simp only[Gy,AMF,AM9]at xj;obtain⟨rfl,xj⟩:=xj;obtain rfl:=ARx xj;exact⟨by simp[DA],Cz,by rfl,qF hg (by simp) hs⟩
 |s'::p',r,rows,Cz,p,ys,Zs,hp,hg,hi,hc,hs,hp',q',zs,xj=>by
  have hlen:=qF hg (by simp) hs;simp only[DA]at hp'⊢;obtain⟨g1,g2,g3⟩:=hp';simp only[Gy]at xj⊢;split at xj
  case h_2=>cases xj
  rename_i q0 x0 fz;rw[fz]at g3;dsimp only at g3;have key:∃x1,BR r s'.j (rowAt r Cz s'.i)=some ⟨.sl q0,x1⟩∧DA q0 x1 p'∧ ∃zs',Gy q0 x1 p' =some ⟨q',zs'⟩∧List.length zs' =List.length zs:=by
   have same:BR r s'.j (rowAt r Cz s'.i)=some ⟨.sl q0,x0⟩→ ∃x1,BR r s'.j (rowAt r Cz s'.i)=some ⟨.sl q0,x1⟩∧DA q0 x1 p'∧ ∃zs',Gy q0 x1 p' =some ⟨q',zs'⟩∧List.length zs' =List.length zs:=
    fun h=>⟨x0,h,g3,zs,xj,rfl⟩
   cases p with
   |nil=>
    simp only[Gy,AMF,AM9]at hg;obtain⟨rfl,hg⟩:=hg;obtain rfl:=ARx hg;simp only[o5,AXR,Qy,AMF]at hs;subst hs;apply same;rw[ku hi];split
    ·rename_i e
     subst e;by_cases ej:s'.j=j
     ·obtain⟨_,y0,h0⟩:=T6 hc
      rw[ej,h0]at fz;simp only[AMF,AM9]at fz;obtain⟨rfl,_⟩:=fz;simp[Ty.scalar]at ht
     grind[W_]
    omega
   |cons s p=>
    simp only[DA]at hp;obtain⟨k1,k2,k3⟩:=hp;simp only[Gy]at hg;split at hg
    case h_2=>cases hg
    rename_i r' x hcx;rw[hcx]at k3;dsimp only at k3;simp only[o5,hcx,AMQ,AMI]at hs;obtain⟨x',hs1,row2,hs2,rfl⟩:=hs;rw[ku k1];rw[ku k1]at same;split
    ·rename_i e
     rw[ALy e]at same;rw[e]at fz;by_cases ej:s'.j=s.j
     ·rw[ej]at fz⊢
      rw[hcx]at fz;simp only[AMF,AM9,Ty.sl.injEq]at fz;obtain⟨rfl,fz⟩:=fz;obtain rfl:=ARx fz;obtain⟨m1,m2⟩:=lp ht k3 hg hi hc hs1 g3 q' zs xj;grind[T6]
     grind[W_]
    simp_all
  grind
theorem s_{w w':World}{B:Nat→Prop}(Z4:∀A,w'.cell? A=w.cell? A∨ ∃v,w'.cell? A=some v∧isSlice v=false):∀{p:List WN} {r:Ty} {h:Value} {rows:List r.D} {hh:Value},
  Rd w' B (.sl r) [h] rows→DA r rows p→Ij w h p=some hh→Ij w' h p=some hh
 |[],_,h,_,hh,_,_,e=>by grind[C8]
 |s::p,r,h,rows,hh,hr,hp,e=>by
  simp only[DA]at hp;obtain⟨hi,PC,hp⟩:=hp;simp only[Rd]at hr;obtain⟨a,cap,e1,_,hr⟩:=hr;obtain rfl:=(List.cons.inj e1).1;rcases hr with hr|⟨b,o,rfl,hb,hr⟩
  ·omega
  obtain⟨cs,hl,hc,hrow⟩:=hr s.i _ (Qc hi);split at hp
  case h_2=>exact hp.elim
  rename_i q x fz;obtain⟨v,hv,hrv⟩:=eS hrow fz;have hcv:=hc _ _ hv;rw[←PC]at hcv;simp only[Ij]at e⊢;split at e
  case h_2=>cases e
  rename_i v0 hv0;rcases Z4 ⟨b,o+s.i*s.sz+s.j,none⟩with h1|⟨u,h1,h2⟩
  ·rw[h1,hv0]
   rw[h1,hv0]at hcv;cases hcv;exact s_ Z4 hrv hp e
  ·rw[hcv]at h1
   cases h1;simp only[Rd]at hrv;obtain⟨_,_,e2,_⟩:=hrv;simp only[AQj,ATG]at e2;grind[isSlice]
theorem ADd{E E':Env}{w w':World}{vw vw':List Bx}{b d d':Nat}{r:Ty}{rows Cz:List r.D}(k:SW E w vw E' w' (vw'.set b .dead))(hb:vw[b]? =some (.sl d r rows))(hb':vw'[b]? =some (.sl d' r Cz))(hl:Cz.length=rows.length)
  (hh:E'.Hl b=E.Hl b) {x:AV} {v:Value} (h:VR E w vw x v):VR E' w' vw' (JX b x) v:=by
 have h1:=GH k h;have cy:∀{b'},b'≠b→(vw'.set b .dead)[b']? =vw'[b']?:=fun e=>AS4 (fun h=>e h.symm)
 cases x with
 |v t x=>exact h1
 |sl s r x=>exact h1
 |nil=>exact h1
 |IC c j=>exact⟨by simpa using h1.1,h1.2⟩
 |PE s r x j=>exact h1
 |fn f J8=>exact⟨fun c hc=>by simpa using h1.1 c hc,h1.2⟩
 |qt f rows=>exact h1
 |yW=>exact h1
 |undef=>trivial
 |ref c p=>
  cases p with
  |nil=>
   simp only[JX];by_cases e:c=b
   ·subst e
    simp only[VR,hb,hb']at h⊢;refine⟨h.1,by simp[DA],⟨_,rfl⟩,?_⟩;grind[C8]
   grind[VR]
  |cons s p=>
   grind[JX,VR]
 |win c p off n=>
  cases p with
  |nil=>
   simp only[JX];by_cases e:c=b
   ·subst e
    simp only[VR,hb,hb']at h⊢;obtain⟨h0,_,q,ys,a,len,cap,e1,e2,e3,e4⟩:=h;simp only[Gy,AMF,AM9]at e1;obtain⟨rfl,e1⟩:=e1;obtain rfl:=ARx e1;refine⟨h0,by simp[DA],r,Cz,a,len,cap,rfl,by omega,?_,e4⟩;grind[C8]
   grind[VR]
  |cons s p=>
   grind[JX,VR]
 |JQ c p i sz j=>
  cases p with
  |nil=>
   simp only[JX];by_cases e:c=b
   ·subst e
    simp only[VR,hb,hb']at h⊢;obtain⟨h0,_,q,ys,bb,o,len,cap,e1,e2,e3,e4⟩:=h;simp only[Gy,AMF,AM9]at e1;obtain⟨rfl,e1⟩:=e1;obtain rfl:=ARx e1;refine⟨h0,by simp[DA],r,Cz,bb,o,len,cap,rfl,by omega,?_,e4⟩;grind[C8]
   grind[VR]
  |cons s p=>
   grind[JX,VR]
theorem AEc{E E':Env}{w w':World}{vw vw':List Bx}{b:Nat}(k:∀x v,VR E w vw x v→VR E' w' vw' (JX b x) v){x:XV}{v:Value}(h:XR E w vw x v):XR E' w' vw' (uc b x) v:=by
 cases x with
 |c x=>exact k x v h
 |agg l=>
  obtain⟨vs,rfl,VC⟩:=h;exact⟨vs,rfl,CT.K8 _ k VC⟩
 |MH l=>
  obtain⟨vs,rfl,VC⟩:=h;refine⟨vs,rfl,CT.K8 _ (fun x v hx=> ?_) VC⟩;cases x with
  |inl x=>exact k x v hx
  |inr q=>
   obtain⟨us,rfl,hus⟩:=hx;exact⟨us,rfl,CT.K8 _ k hus⟩
end Go.Fw
end
section
namespace Go.Fw
theorem od{w:World}{vw:List Bx}{E:Env}{bx:List Bx}{G:AA4}(h:C9 E w vw bx G)(hw:FH bx vw){d:Nat}(hd:1≤d){q:Ty}{old:q.D}{j:Nat}{x:XV}{v:Value}(hv:XR E w vw x v){Zs:q.D}{QS:List Bx}{d':Nat}
  (e:pk d q old j x bx=some (Zs,QS,d')):1≤d'∧d'≤d∧ ∃E' F,G2 E w vw bx G E' QS F∧
   ((j=0∧x.plain=false∧Ow w E'.S (d'-1) q v.cells.toList Zs F)∨(∃t y,v.cells.toList=[v]∧Ow w E'.S (d'-1) t [v] y F∧D6 q j old t y=some Zs∧(x.plain=true→t.scalar=true∧isSlice v=false))):=by
 unfold pk at e;split at e
 ·rename_i l
  split at e
  case isFalse=>cases e
  rename_i hj;obtain⟨vs,rfl,VC⟩:=hv;obtain⟨h1,h2,E',F,h3,h4⟩:=ZR h hw hd VC e;exact⟨h1,h2,E',F,h3,.inl ⟨hj,rfl,h4⟩⟩
 ·rename_i x
  split at e
  case h_2=>cases e
  rename_i t y0 hc;simp only[AMQ,AMI,APv]at e;obtain⟨⟨y,ji,d1⟩,e1,row,e2,rfl,rfl,rfl⟩:=e;dsimp only at e2;have X5:VR E w vw x v:=hv;have hk:x.known=true:=by grind[AV.known,dX]
  obtain⟨h1,h2,E',F,h3,h4⟩:=bJ h hw hd X5 e1;refine⟨h1,h2,E',F,h3,.inr ⟨t,y,by rw[(vE X5 hk).2],h4,e2,fun hp=> ?_⟩⟩;cases x with
  |v u z=>
   simp only[dX,AMI,APv]at e1;obtain⟨z',e3,_⟩:=e1;obtain⟨rfl,_⟩:=Hz e3;obtain⟨hs,hr⟩:=X5;refine⟨hs,?_⟩;cases u<;>simp_all[Ty.scalar,Rd]<;>rfl
  |_=>simp[XV.plain]at hp
 simp_all
theorem qi{f:AV→AV}{bx:List Bx}{b d:Nat}{r:Ty}{rows:List r.D}:(bx.set b (.sl d r rows)).map (Bx.map f)=(bx.map (Bx.map f)).set b (.sl d r rows):=by
 rw[List.map_set];rfl
theorem AFe{f:AV→AV}{bx:List Bx}{n d:Nat}{r:Ty}{rows:List r.D}(h:(bx.map (Bx.map f))[n]? =some (.sl d r rows)):bx[n]? =some (.sl d r rows):=by
 rw[ASJ,AMI]at h;obtain⟨B,h1,h2⟩:=h;cases B with
 |mem cs=>simp[Bx.map]at h2
 |sl d' r' Cz=>rw[h1];exact congrArg some h2
 |dead=>simp[Bx.map]at h2
theorem sC{E:Env}{σ:St}{a:Act}{w:World}(h:Rel E σ a w){b i sz j:Nat}{p:List WN}{va v:Value}(hva:VR E w σ.bx (.JQ b p i sz j) va){x:XV}(hv:XR E w σ.bx x v)(h1c:∀u∈v.cells.toList,u.oneCell' =true)
  {σ':St} (e:gw σ (.c (.JQ b p i sz j)) x=some σ'):
  ∃bb oo E',va= .pointer (some ⟨bb,oo,none⟩)∧w.there bb oo v.cells.toList.length∧Rel E' σ' a (w.setCells bb oo v.cells.toList)∧Q5 [b] E σ.bx w E' σ'.bx (w.setCells bb oo v.cells.toList)∧σ'.tm.length=σ.tm.length:=by
 simp only[gw]at e;split at e
 case h_2=>cases e
 rename_i d r rows hb;split at e
 case isFalse=>cases e
 rename_i km;simp only[AMQ]at e;obtain⟨⟨q,ys⟩,hg,e⟩:=e;dsimp only at e;split at e
 case isFalse=>cases e
 rename_i PC;simp only[AMQ,AMI]at e;obtain⟨⟨Zs,aM,d2⟩,e1,Cz,e2,e3⟩:=e;dsimp only at e1 e2 e3;have st:=h.bx.st;simp only[VR,hb]at hva;obtain⟨_,hp,q1,ys1,bb,o,len,cap,g1,hi,g3,rfl⟩:=hva;rw[hg]at g1;simp only[AMF,AM9]at g1;obtain⟨rfl,g1⟩:=g1;obtain rfl:=ARx g1;have Kg:=(AMK.1 hb).1;obtain⟨Gb,⟨hd1,ho⟩,hB⟩:=h.bx.take hb;have Xq:FH (σ.bx.set b .dead) σ.bx:=fun n B hn=>by
  grind
 obtain⟨hd2,hd3,E1,Fx,k1,hrow⟩:=od hB Xq (by omega) hv e1;obtain⟨A,W,pG,ho2⟩:=Jm (d:=d2+p.length) (by omega) ho;have Xg:=k1.boxes.perm (G':=(Fx++A)++W++[]) (by
  grind)
 obtain⟨hle,hB3⟩:=Xg.share;simp only[AM5]at hB3
 generalize hE3:({ E1 with S:=fun c=>E1.S c∨c∈W,T:=fun c=>E1.T c∨c∈W }:Env)=E3 at hle hB3
 have qj:Le E E3:=k1.le.trans hle;have ho3:Ow w E3.S (d2+p.length) (.sl r) [E.Hl b] rows A:=EX (fun c hc=>by
  subst hE3;exact hc.imp (k1.le.S c) id) (fun _ _=>rfl) (fun _ _=>rfl) ho2
 obtain⟨h',F1,F2,m1,m2,m3,m4⟩:=pg ho3 hp hg (by omega);rw[g3]at m1;cases m1;obtain⟨m,rfl⟩:∃m,d2=m+1:=⟨d2-1,by omega⟩;rw[show m+1+p.length-p.length=m+1 by omega]at m2 m4;simp only[Nat.add_sub_cancel]at hrow;obtain⟨b1,o1,arr,ty,fr,cs,G,R,n1,n2,n3,n4,n5,n6,n7,n8,n9⟩:=ta m2 hi;simp only[AMF,Addr.mk.injEq,ATG]at n1;obtain⟨rfl,rfl⟩:=n1;subst PC;have hAp:A.Perm (G++(bb::R)++F2):=m3.trans (n8.append_right F2);obtain⟨Fs,hFs1,hFs2⟩:=hB3;have hbA:bb∈A:=hAp.mem_iff.2 (by simp);have bY: ¬E3.T bb:=hFs2.free bb (by simp[hbA]);have yY: ¬E3.S bb:=fun hc=>bY (hFs2.st bb hc)
 have nd:(Fx++(G++(bb::R)++F2)).Nodup:=(AWs Fx hAp).nodup_iff.1 (ANN.1 hFs2.nodup).2.1;have hnx:bb∉Fx:=fun hc=>(ANN.1 nd).2.2 bb hc bb (by simp) rfl
 have hnG:bb∉G:=fun hc=>(ANN.1 (ANN.1 (ANN.1 nd).2.1).1).2.2 bb hc bb (by simp) rfl
 have hnR:bb∉R:=(AW6.1 (ANN.1 (ANN.1 (ANN.1 nd).2.1).1).2.1).1;have hn2:bb∉F2:=fun hc=>(ANN.1 (ANN.1 nd).2.1).2.2 bb (by simp) bb hc rfl
 have cO:j+v.cells.toList.length≤q.n:=by
  rcases hrow with⟨rfl,_,ho4⟩|⟨t,y,hc1,ho4,WT,_⟩
  ·rw[XT ho4];omega
  ·rw[hc1]
   obtain⟨_,y0,hc0⟩:=T6 WT;grind[eD,List.getElem?_eq_some_iff]
 have cU:o+i*q.n+j+v.cells.toList.length≤arr.size:=by omega
 let w':=w.setCells bb (o+i*q.n+j) v.cells.toList
 have cy:∀c,c≠bb→w'.heap[c]? =w.heap[c]?:=fun c hc=>DP _ _ _ _ _ hc
 have rv:∀c,E3.S c→w'.heap[c]? =w.heap[c]?:=fun c hc=>cy c (fun e=>yY (e▸hc))
 have hb':=FY v.cells.toList (o+i*q.n+j) w bb arr ty fr n2;have Z4:∃dM G' D0,dM.length=q.n∧Bc w' bb (o+i*q.n) dM∧Ow w' E3.S m q dM Zs G'∧(Fx++G).Perm (G'++D0):=by
  rcases hrow with⟨rfl,_,ho4⟩|⟨t,y,hc1,ho4,WT,_⟩
  ·refine⟨v.cells.toList,Fx,G,XT ho4,ON n2 cU,EX (fun c hc=>hle.S c hc) (fun c hc=>cy c (fun e=>yY (e▸hle.S c hc))) (fun c hc=>cy c (fun e=>hnx (e▸hc))) ho4,AXe _⟩
  ·obtain⟨_,y0,hc0⟩:=T6 WT
   obtain⟨u,K1,K2,z1,z2,z3,z4⟩:=eD n7 hc0;have Aau:bb∉K2:=fun hc=>hnG (z3.mem_iff.2 (by simp[hc]))
   obtain⟨F',f1,f2⟩:=z4 w' E3.S v y Fx Zs (fun _ hc=>hc) rv (fun c hc=>cy c (fun e=>Aau (e▸hc)))
    (EX (fun c hc=>hle.S c hc) (fun c hc=>cy c (fun e=>yY (e▸hle.S c hc))) (fun c hc=>cy c (fun e=>hnx (e▸hc))) ho4) WT
   refine⟨cs.set j v,F',K1,by simp_all,fun x u' hx=> ?_,f2,?_⟩
   ·rw[List.getElem?_set]at hx
    split at hx
    ·rename_i ejx
     subst ejx;split at hx
     ·cases hx
      have:=ON (w:=w) (b:=bb) (o:=o+i*q.n+j) (vs:=v.cells.toList) n2 cU 0 v (by simp_all);omega
     simp_all
    ·rename_i ejx
     have hold:=n6 x u' hx;rw[Ka n2]at hold;rw[Ka hb',Vw cU,AMD (fun hh=>by grind),hold]
   grind
 obtain⟨dM,G',D0,c1,c2,c3,c4⟩:=Z4;obtain⟨ni,f1,f2⟩:=n9 w' E3.S (FE arr (o+i*q.n+j) v.cells.toList) dM Zs G' (fun _ hc=>hc) rv (fun c hc=>cy c (fun e=>hnR (e▸hc))) hb' (Fa _ _ _) (fun k hk=>by
  rw[Vw cU,AMD (by omega)]) c1 c2 c3
 obtain⟨F',f3,f4⟩:=m4 w' E3.S (ys.set i Zs) ni Cz (fun _ hc=>hc) rv (fun c hc=>cy c (fun e=>hn2 (e▸hc))) f2 e2;have pz:(Fx++A).Perm (F'++D0):=by
  have p1:F'.Perm (G'++(bb::R)++F2):=f3.trans (f1.append_right F2);refine(AWs Fx hAp).trans (List.Perm.trans ?_ (p1.symm.append_right D0));grind
 have AfL:bb∈F':=(f3.trans (f1.append_right F2)).mem_iff.2 (by simp);have hB4:C9 E3 w σ.bx aM F':=by
  have:C9 E3 w σ.bx aM (F'++D0):=C9.perm (G:=Fx++A) ⟨Fs,hFs1,hFs2⟩ pz;exact this.drop
 have qG:aM.length=σ.bx.length:=by rw[k1.len];simp
 have AUU:aM[b]? =some .dead:=by
  obtain⟨B,hB⟩:∃B,aM[b]? =some B:=⟨_,AL5 (by omega)⟩;rcases k1.within b B hB with e|e
  all_goals simp_all
 have hrl:Cz.length=rows.length:=qF hg (by simp) e2;have kT:∀E0,Le E0 E3→G2 E0 w σ.bx σ.bx [] E3 aM (Fx++A):=fun E0 hl=>⟨hl,qG,fun n B hn=>by
  rcases k1.within n B hn with e|e
  all_goals grind,⟨Fs,hFs1,by simp_all⟩⟩
 have mv:∀n,E3.Hl n=E.Hl n:=fun n=>by rw[qj.Hl]
 have hww:∀c,c<w.heap.size→c∉Fx++A→w'.heap[c]? =w.heap[c]?:=fun c _ hc=>cy c (fun e=>hc (by simp_all))
 have base:ck E w E3 w':=⟨qj.T,qj.S,qj.Tof,qj.Sof,fun c hc=>cy c (fun e=>bY (e▸qj.T c hc)),(B_ _ _ _ _).os,(B_ _ _ _ _).tape,(B_ _ _ _ _).output,(B_ _ _ _ _).size⟩;have finish:∀(f:AV→AV) (g:XV→XV),(∀E0,Le E0 E3→(∀c,E0.S c→E0.T c)→ ∀x v,VR E0 w σ.bx x v→VR E3 w' ((aM.map (Bx.map f)).set b (.sl (m+1+p.length) r Cz)) (f x) v)→
   (∀x v,XR E w σ.bx x v→XR E3 w' ((aM.map (Bx.map f)).set b (.sl (m+1+p.length) r Cz)) (g x) v)→
   Rel E3 { tm:=σ.tm.map g,bx:=(aM.map (Bx.map f)).set b (.sl (m+1+p.length) r Cz) } a w':=by
  intro f g hf hg;refine⟨h.NT,CT.K8 _ hg h.tm,?_⟩;have hT:=hB4.AVA (E':=E3) (w':=w') (vw':=(aM.map (Bx.map f)).set b (.sl (m+1+p.length) r Cz)) f (hf E3 (Le.refl _) hFs2.st) (fun _ h=>h) (fun _ _=>rfl) (fun _ _=>rfl) (fun c hc _=>cy c (fun e=>by
    simp_all)) (fun F hF=>⟨hF.nodup,hF.free,fun c hc=>by rw[DY];exact hF.lt c hc,hF.st,fun c hc=>by rw[DY];exact hF.cS c hc⟩)
  refine C9.put (F:=F') (G:=[]) (by simp_all) (by rw[ASJ,AUU];rfl) ⟨by omega,?_⟩;simp_all
 have ATl:∀f:AV→AV,Q5 [b] E σ.bx w E3 ((aM.map (Bx.map f)).set b (.sl (m+1+p.length) r Cz)) w':=fun f=>⟨base,by simp[qG],fun n _=>⟨by rw[qj.Hk],mv n⟩,fun n hn=>by
  have qp:n≠b:=fun e=>by simp_all
  have vd:=(AMK.1 hn).1;rw[AS4 (fun e=>qp e.symm),ASJ];obtain⟨B,hB⟩:∃B,aM[n]? =some B:=⟨_,AL5 (by omega)⟩;have hBd:B= .dead:=by
   rcases(kT E qj).within n B hB with e|e
   all_goals simp_all
  rw[hB,hBd];rfl,fun n B B' qp hB TL qw=>by
  simp at qp;have vd:=(AMK.1 hB).1;rw[AS4 (fun e=>qp e.symm),ASJ]at TL;obtain⟨B2,Xg⟩:∃B2,aM[n]? =some B2:=⟨_,AL5 (by omega)⟩;rw[Xg]at TL;have TL:Bx.map f B2=B':=by simp_all
  have hBB:B2=B:=by
   rcases(kT E qj).within n B2 Xg with e|e
   ·subst e;exact absurd TL.symm qw
   simp_all
  subst hBB;refine⟨?_,fun c hc=>cy c (fun e=> ?_)⟩
  ·subst TL
   cases B2 with
   |mem cs=>trivial
   |sl d r rows=>rfl
   |dead=>exact absurd rfl qw
  ·have hF:Fs[n]? =some (Fs[n]'(by have:=(AMK.1 Xg).1;rw[hFs1.1];omega)):=AL5 _
   have Zb:xq E3 w n B2 c:=by
    cases B2 with
    |mem cs=>simp only[xq]at hc⊢;rw[qj.Hk];omega
    |sl d r rows=>grind[xq]
    |dead=>exact hc
   rcases eR (hFs1.2 n B2 _ Xg hF) Zb with hs|hs
   ·simp_all
   ·exact(ANN.1 hFs2.nodup).2.2 c (ASw.2 ⟨_,ANi hF,hs⟩) bb (by simp[hbA]) e⟩
 refine⟨bb,o+i*q.n+j,E3,rfl,US (k:=0) n2 cU n3,?_,?_,?_⟩
 ·split at e3
  ·rename_i AYd
   have h0:∀E0,Le E0 E3→(∀c,E0.S c→E0.T c)→SW E0 w σ.bx E3 w' (aM.set b (.sl (m+1+p.length) r Cz)):=by
    intro E0 hl st0;refine aa b (kT E0 hl) st0 (by simp[qG]) (fun n d r rows hn _ hq=>by
      grind) (fun _ _=>rfl) (fun _ _=>rfl) rfl rfl hww (fun d0 r0 Rz hq=> ?_)
    rw[ATT (by omega)]at hq;simp only[AMF,Bx.sl.injEq]at hq;obtain⟨rfl,rfl,hq⟩:=hq;obtain rfl:=ARx hq;refine⟨d,rows,hb,fun p' hp' q' zs xj=> ?_⟩;rcases hrow with⟨_,hpf,_⟩|⟨t,y,hc1,ho4,WT,hsc⟩
    ·simp_all
    obtain⟨hs1,hs2⟩:=hsc AYd;have hk:=lp hs1 hp hg hi WT e2 hp' q' zs xj;refine⟨hk.1,hk.2,fun hh hhe=> ?_⟩;rw[mv];rw[←hl.Hl,mv]at hhe;refine s_ (fun Ad=> ?_) (Wo f4) hk.1 hhe;by_cases eA:Ad.block=bb∧Ad.spot=none∧Ad.off=o+i*q.n+j
    ·right
     obtain⟨ab,ao,asp⟩:=Ad;simp only at eA;rw[eA.1,eA.2.1,eA.2.2];refine⟨v,?_,hs2⟩;have:=ON (w:=w) (b:=bb) (o:=o+i*q.n+j) (vs:=v.cells.toList) n2 cU 0 v (by simp_all);omega
    grind[World.cell?_setCells_out,List.length_cons,List.length_nil]
   have:=finish id id (fun E0 hl st0 x v hx=>by rw[Zn];grind[GH]) (fun x v hx=>by rw[Zn];grind[Og]);grind[Zn,List.map_id]
  ·have h0:∀E0,Le E0 E3→(∀c,E0.S c→E0.T c)→ ∀x v,VR E0 w σ.bx x v→VR E3 w' ((aM.map (Bx.map (JX b))).set b (.sl (m+1+p.length) r Cz)) (JX b x) v:=by
    intro E0 hl st0 x v hx;have keep:SW E0 w σ.bx E3 w' (((aM.map (Bx.map (JX b))).set b (.sl (m+1+p.length) r Cz)).set b .dead):=by
     refine aa b (kT E0 hl) st0 (by simp[qG]) (fun n d r rows hn _ hq=>by
      grind[List.getElem?_set_ne,AFe]) (fun _ _=>rfl) (fun _ _=>rfl) rfl rfl hww (fun d0 r0 Rz hq=> ?_)
     simp_all
    exact ADd keep hb (by rw[ATT (by simp_all)]) hrl (by rw[hl.Hl]) hx
   have:=finish (JX b) (uc b) h0 (fun x v hx=>AEc (h0 E qj st) hx);grind[St.AA2,mE,qi]
 ·rw[←e3]
  split
  all_goals grind[id,Zn,St.AA2,mE,qi]
 grind[St.AA2]
end Go.Fw
end
section
namespace Go.Fw
theorem eH{w w':World}{B B':Nat→Prop}:∀{r:Ty} {cs:List Value} {x:r.D},r.flat=true→Rd w B r cs x→Rd w' B' r cs x
 | .cons c r,cs,x,h,hr=>by
  simp only[Ty.flat,AML]at h;simp only[Rd]at hr⊢;obtain⟨v,l,rfl,h1,h2⟩:=hr;exact⟨v,l,rfl,eH h.1 h1,eH h.2 h2⟩
 | .unit,_,_,_,hr=>by grind[Rd]
 | .int k,_,_,_,hr=>by grind[Rd]
 | .bool,_,_,_,hr=>by grind[Rd]
 | .str,_,_,_,hr=>by grind[Rd]
 | .sl q,_,_,h,_=>by simp[Ty.flat]at h
theorem cu{w:World}{S:Nat→Prop}{d:Nat}:∀{r:Ty} {cs:List Value} {y:r.D} {F:AA4},r.flat=true→Ow w S d r cs y F→F=[]
 | .int k,_,_,_,_,h=>by grind[Ow]
 | .bool,_,_,_,_,h=>by grind[Ow]
 | .str,_,_,_,_,h=>by grind[Ow]
 | .unit,_,_,_,_,h=>by grind[Ow]
 | .cons c r,_,_,_,hf,h=>by
  simp only[Ty.flat,AML]at hf;simp only[Ow]at h;obtain⟨v,l,F1,F2,_,rfl,h1,h2⟩:=h;rw[cu hf.1 h1,cu hf.2 h2];rfl
 | .sl q,_,_,_,hf,_=>by simp[Ty.flat]at hf
theorem vg{w w':World}{S S':Nat→Prop}{d d':Nat}{r:Ty}(hr:r.flat=true){cs:List Value}{y:r.D}{F:AA4}(h:Ow w S d r cs y F):F=[]∧cs.length=r.n∧Ow w' S' d' r cs y []:=
 ⟨cu hr h,XT h,iC hr (eH (B':=fun _=>False) hr (Wo h))⟩
theorem jF:∀{r:Ty} {j:Nat} {x:r.D} {t:Ty} {y:t.D},r.flat=true→BR r j x=some ⟨t,y⟩→t.flat=true
 | .cons c r,0,x,t,y,h,e=>by
  simp only[Ty.flat,AML]at h;simp only[BR,AMF,AM9]at e;simp_all
 | .cons c r,j+1,x,t,y,h,e=>by
  simp only[Ty.flat,AML]at h;simp only[BR]at e;exact jF h.2 e
 | .unit,_,_,_,_,_,e=>by simp[BR]at e
 | .int k,0,x,t,y,_,e=>by simp only[BR,AMF,AM9]at e;simp_all
 | .bool,0,x,t,y,_,e=>by simp only[BR,AMF,AM9]at e;simp_all
 | .str,0,x,t,y,_,e=>by simp only[BR,AMF,AM9]at e;simp_all
 | .sl _,_,_,_,_,h,_=>by simp[Ty.flat]at h
 | .int _,_+1,_,_,_,_,e=>by simp[BR]at e
 | .bool,_+1,_,_,_,_,e=>by simp[BR]at e
 | .str,_+1,_,_,_,_,e=>by simp[BR]at e
theorem ACX{r:Ty}(hr:r.flat=true){rows:List r.D}:∀{p:List WN},DA r rows p→p=[]
 |[],_=>rfl
 |s::p,h=>by
  simp only[DA]at h;obtain⟨_,_,h⟩:=h;exfalso;cases hc:BR r s.j (rowAt r rows s.i)with
  |none=>simp_all
  |some tx=>
   obtain⟨t,x⟩:=tx;have hf:=jF hr hc;grind[Ty.flat]
theorem flatten_nil{l:List AA4}(h:∀x∈l,x=[]):l.flatten=[]:=by
 simp_all;omega
theorem ABv{E:Env}{σ:St}{a:Act}{w:World}(h:Rel E σ a w){b d off n:Nat}{r:Ty}{rows:List r.D}(hb:σ.bx[b]? =some (.sl d r rows))(hr:r.flat=true)(hgd:r.vF=true)(hk:0<r.n)(hl:off+n≤rows.length)(hn:0<n):
  ∃bb o cap,E.Hl b= .slice (some ⟨bb,o,none⟩) rows.length cap∧rows.length≤cap∧w.there bb (o+off*r.n) (n*r.n)∧
   Rel E { σ with bx:=σ.bx.set b (.sl d r ((rows.take off++List.replicate n r.z)++rows.drop (off+n))) } a (w.setCells bb (o+off*r.n) (List.replicate n (En r)).flatten)∧
   Q5 [b] E σ.bx w E (σ.bx.set b (.sl d r ((rows.take off++List.replicate n r.z)++rows.drop (off+n)))) (w.setCells bb (o+off*r.n) (List.replicate n (En r)).flatten):=by
 have st:=h.bx.st;obtain⟨F,⟨hd,ho⟩,hB⟩:=h.bx.take hb;simp only[AM5]at hB;have Kg:=(AMK.1 hb).1;obtain⟨d',rfl⟩:∃m,d=m+1:=⟨d-1,by omega⟩;simp only[Ow]at ho;obtain⟨ad,cap,hh,zT,ho⟩:=ho;simp only[AQj,ATG]at hh;rcases ho with⟨rfl,_⟩|⟨bb,o,arr,ty,fr,Fs,rfl,ha,PC,hu,rfl,hFl,cK⟩
 ·omega
 have hFn:List.flatten Fs=[]:=flatten_nil fun x hx=>by
  obtain⟨i,hi,hxi⟩:=AQa hx;obtain⟨cs,_,_,h3⟩:=cK i (rows[i]'(by omega)) x (AL5 _) (by grind);exact(vg (w':=w) (S':=E.S) (d':=0) hr h3).1
 rw[hFn]at hB;have hzl:(En r).length=r.n:=Gp r;have hvl:((List.replicate n (En r)).flatten).length=n*r.n:=by simp_all
 have hm1:(off+n)*r.n≤cap*r.n:=AOr _ (by omega);have hm2:(off+n)*r.n=off*r.n+n*r.n:=ATn ..;have cU:o+off*r.n+((List.replicate n (En r)).flatten).length≤arr.size:=by omega
 generalize VC:(List.replicate n (En r)).flatten=vs at hvl cU
 refine⟨bb,o,cap,hh,zT,US ha (by omega) hu,?_⟩;have bY: ¬E.T bb:=hB.AEd _ (by simp);have hB0:=hB;have cy:∀c,c≠bb→(w.setCells bb (o+off*r.n) vs).heap[c]? =w.heap[c]?:=fun c hc=>DP _ _ _ _ _ hc
 have hw:∀c,c<w.heap.size→c∉[bb]→(w.setCells bb (o+off*r.n) vs).heap[c]? =w.heap[c]?:=fun c _ hc=>cy c (by simp_all)
 have kT:G2 E w σ.bx σ.bx [] E (σ.bx.set b .dead) [bb]:=⟨Le.refl _,by simp,fun n B hn=>by
  grind,by simp_all⟩
 generalize AQs:(rows.take off++List.replicate n r.z)++rows.drop (off+n)=Cz
 have AT4:Cz.length=rows.length:=by
  grind
 have keep:SW E w σ.bx E (w.setCells bb (o+off*r.n) vs) (σ.bx.set b (.sl (d'+1) r Cz)):=aa b kT st (by simp) (fun n d r rows hn _ hq=>by
   grind) (fun _ _=>rfl) (fun _ _=>rfl) rfl rfl hw (fun d1 r1 AMd hq=>by
   rw[ATT Kg]at hq;simp only[AMF,Bx.sl.injEq]at hq;obtain⟨rfl,rfl,hq⟩:=hq;obtain rfl:=ARx hq;refine⟨d'+1,rows,hb,fun p hp q ys hg=> ?_⟩;obtain rfl:=ACX hr hp;simp only[Gy,AMF,AM9]at hg;obtain⟨rfl,hg⟩:=hg;obtain rfl:=ARx hg;exact⟨by simp[DA],⟨Cz,by rfl,AT4⟩,fun h' hh' =>hh'⟩)
 refine⟨⟨h.NT,h.tm.imp fun _ _ hq=>Og keep hq,?_⟩,⟨⟨fun _ h=>h,fun _ h=>h,fun _ h=> .inl h,fun _ h=> .inl h,fun c hc=>cy c (fun e=>bY (e▸hc)),(B_ _ _ _ _).os,(B_ _ _ _ _).tape,(B_ _ _ _ _).output,(B_ _ _ _ _).size⟩,by simp,fun _ _=>⟨rfl,rfl⟩,fun n hn=>by
  grind,fun n B B' qp hB TL qw=>by
  simp at qp;rw[AS4 (fun e=>qp e.symm),hB]at TL;cases TL;refine⟨Ux.refl qw,fun c hc=>cy c (fun e=> ?_)⟩;obtain⟨Fs,⟨f1,f2⟩,f3⟩:=hB0;have Xg:(σ.bx.set b .dead)[n]? =some B:=by grind
  have hF:Fs[n]? =some (Fs[n]'(by grind)):=AL5 _;rcases eR (f2 n B _ Xg hF) hc with hs|hs
  ·simp_all
  ·exact(ANN.1 f3.nodup).2.2 c (ASw.2 ⟨_,ANi hF,hs⟩) bb (by simp) e⟩⟩
 have hT:=hB.turn (E':=E) (w':=w.setCells bb (o+off*r.n) vs) (vw':=σ.bx.set b (.sl (d'+1) r Cz)) (fun x v hq=>GH keep hq) (fun _ h=>h) (fun _ _=>rfl) (fun _ _=>rfl) (fun c hc _=>cy c (fun e=>by
   simp_all)) (fun F hF=>⟨hF.nodup,hF.free,fun c hc=>by rw[DY];exact hF.lt c hc,hF.st,fun c hc=>by rw[DY];exact hF.cS c hc⟩)
 have ADV:n0 E (w.setCells bb (o+off*r.n) vs) (σ.bx.set b (.sl (d'+1) r Cz)) b (.sl (d'+1) r Cz) [bb]:=by
  refine⟨hd,?_⟩;simp only[Ow];refine⟨_,cap,by simp_all,by omega,.inr ⟨bb,o,FE arr (o+off*r.n) vs,ty,fr,List.replicate Cz.length [],rfl,FY _ _ _ _ _ _ _ ha,by rw[Fa];omega,by rw[Fa];omega,by simp,by simp,fun i y G hy hG=> ?_⟩⟩;have hG':G=[]:=ATu (ANi hG);subst hG';have hil:i<rows.length:=by grind
  by_cases PY:off≤i∧i<off+n
  ·have hyz:y=r.z:=by
    grind
   subst hyz;refine⟨En r,hzl,fun j v hj=> ?_,d_ hgd⟩;have qu:j<r.n:=by grind
   have e1:(i-off)*r.n=i*r.n-off*r.n:=AWR ..;have e2:off*r.n≤i*r.n:=AOr _ PY.1;have e3:(i-off+1)*r.n≤n*r.n:=AOr _ (by omega);rw[ATn,Nat.one_mul]at e3;have:=ON ha cU ((i-off)*r.n+j) v (by
    grind[NC,Nat.mul_comm,Nat.mul_add_mod,Nat.mod_eq_of_lt])
   grind
  ·have hyo:rows[i]? =some y:=by
    rw[←AQs]at hy;by_cases h1:i<off
    ·grind
    grind[List.getElem?_append_right]
   obtain⟨cs,c1,c2,c3⟩:=cK i y (Fs[i]'(by omega)) hyo (AL5 _);obtain⟨_,c4,c5⟩:=vg (w':=w.setCells bb (o+off*r.n) vs) (S':=E.S) (d':=d') hr c3;refine⟨cs,c4,T2 c2 ha cU (.inr ?_),c5⟩;by_cases h1:i<off
   ·have:(i+1)*r.n≤off*r.n:=AOr _ h1
    grind
   grind
 have:=C9.put (b:=b) (B:= .sl (d'+1) r Cz) (F:=[bb]) (G:=[]) (by simpa using hT) (by simp_all) ADV;simp_all
section
variable{Y:Type} {P:Program} {T:JY} (hT:Eo P T) {o:Oper} {E:Env} {σ:St} {a:Act} {w:World} {k:K Y} {y:Y}
include hT
theorem za(h:Rel E σ a w){c:Call}{x:XV}(ho:o.op= .call c)(hc:c.callee= .builtin .clear)(H_:c.args.toList.map σ.ev=[x])(e:j0 T c.argTypes σ x k=some y)
  (Aa5:∀b p off n,x= .c (.win b p off n)→KM (fun _=>none) σ o.op=[b]):∃v w' E' xv σ',((execOp a.eval o).run P w= .ok (.value v) w'∨((execOp a.eval o).run P w= .ok .skip w'∧v=undef))∧Rel E' σ' a w'∧XR E' w' σ'.bx xv v∧
   Q5 (KM (fun _=>none) σ o.op) E σ.bx w E' σ'.bx w'∧σ'.tm.length=σ.tm.length∧k xv σ' =some y:=by
 obtain⟨o1,hargs',rfl⟩:=XL H_;have bd:=h.ev o1;unfold j0 at e;split at e
 case h_2=>cases e
 rename_i t b off n ht hx;rw[hx]at bd;rw[Aa5 b [] off n hx];split at e
 case h_2=>cases e
 rename_i d r rows hb;split at e
 case isFalse=>cases e
 rename_i T7;rw[AML]at T7;obtain⟨T7,hr⟩:=T7;rw[AML,AMc]at hr;obtain⟨hr,hk⟩:=hr;obtain⟨el,ti,hu,Um,hs,hby,hrow⟩:=J6 hT T7;obtain⟨i,z,i1,i2,i3,i4,i5,hg⟩:=WQ hT Um hrow;have Zv:VR E w σ.bx (.win b [] off n) (a.eval o1):=bd;simp only[VR,hb]at Zv;obtain⟨_,_,q,ys,ad,len,cap,hgp,hl,hh,hv⟩:=Zv;simp only[Gy,AMF,AM9]at hgp;obtain⟨rfl,hgp⟩:=hgp;obtain rfl:=ARx hgp;simp only[Ij,AMF]at hh;by_cases hn:n=0
 ·subst hn
  have AFp:(rows.take off++List.replicate 0 r.z)++rows.drop (off+0)=rows:=by simp
  rw[AFp]at e;have WT:σ.bx.set b (.sl d r rows)=σ.bx:=by
   apply AVx;grind
  rw[WT]at e;refine⟨.tuple #[],w,E,.c .undef,σ,.inl ?_,h,trivial,Q5.refl _ _ _ _,rfl,e⟩;have hz:∃a' c',a.eval o1= .slice a' 0 c':=⟨_,_,by rw[hv];rfl⟩;obtain⟨a',c',hz⟩:=hz;simp only[execOp,ho,resolve,hc,hargs',invoke,builtin,Sem.run_bind,Sem.run_pure,Result.andThen_ok,List.map_toArray,AVJ,AXI,Builtin.clear_,ht,hz];cases a'<;>simp[BZ hu]
 ·obtain⟨bb,oo,cap',g1,g2,g3,g4,g5⟩:=ABv h (d:=d) hb hr hg hk hl (by omega)
  rw[g1]at hh;simp only[Value.slice.injEq]at hh;obtain⟨rfl,rfl,rfl⟩:=hh;have X5:a.eval o1= .slice (some ⟨bb,oo+off*r.n,none⟩) n (cap'-off):=by
   rw[hv];unfold Uy;rw[AMD (by omega)];simp[Addr.add]
  refine⟨.tuple #[],_,E,.c .undef,_,.inl ?_,g4,trivial,g5,rfl,e⟩;have hz:(Builtin.zeroCells z.cells n).toList=(List.replicate n (En r)).flatten:=by
   grind[Builtin.zeroCells,En,V6,Gp]
  have h1:∀v∈(List.replicate n (En r)).flatten,v.oneCell' =true:=fun v hv=>by
   obtain⟨l,hl1,xr⟩:=ASw.1 hv;rw[ATu hl1]at xr;exact j6 (w:=w) (S:=E.S) (d:=0) (d_ hg) v xr
  have hvl:((List.replicate n (En r)).flatten).length=n*r.n:=by rw[G3,Gp]
  have fN:=run_storeCells_cells (P:=P) bb (oo+off*r.n) (List.replicate n (En r)).flatten 0 w (fun j hj=>by simpa using(g3 j (by omega)).1) (fun j hj=>by simpa using(g3 j (by omega)).2) h1;rw[AUN]at fN;obtain⟨n',rfl⟩:∃n',n=n'+1:=⟨n-1,by omega⟩;simp only[execOp,ho,resolve,hc,hargs',invoke,builtin,Sem.run_bind,Sem.run_pure,Result.andThen_ok,List.map_toArray,AVJ,AXI,Builtin.clear_,ht,X5];simp[BZ hu,zeroValue,typeInfo,i1,i4,hz,fN]
end
end Go.Fw
end
section
namespace Go.Fw
theorem p7{E:Env}{w:World}{vw:List Bx}:∀{l:List XV} {bs:AA4} {vs:List Value},xU l=some bs→CT (XR E w vw) l vs→(∀b∈bs,b<vw.length)∧vs=bs.map fun b=>Value.pointer (some ⟨E.Hk b,0,none⟩)
 |[],bs,vs,e,h=>by
  simp only[xU,AMF]at e;subst e;cases vs with
  |nil=>simp_all
  |cons _ _=>exact h.elim
 |x::l,bs,vs,e,h=>by
  unfold xU at e;split at e
  ·simp_all
  ·rename_i b l' heq
   cases heq;simp only[AMI]at e;obtain⟨r,e1,rfl⟩:=e;cases vs with
   |nil=>exact h.elim
   |cons v vs=>
    obtain⟨h1,h2⟩:=h;obtain⟨k1,k2⟩:=p7 e1 h2;obtain⟨h3,h4⟩:b<vw.length∧v= .pointer (some ⟨E.Hk b,0,none⟩):=h1;simp_all
  simp_all
theorem evs{E:Env}{σ:St}{a:Act}{w:World}(h:Rel E σ a w):∀l:List Operand,CT (XR E w σ.bx) (l.map σ.ev) (l.map a.eval)
 |[]=>trivial
 |x::l=>⟨h.ev x,evs h l⟩
theorem AA5{E:Env}{σ:St}{a:Act}{w:World}(h:Rel E σ a w):∀o:Option Operand,OR E w σ.bx (o.map σ.ev) (o.map a.eval)
 |none=>trivial
 |some x=>h.ev x
theorem wb{w:World}{S:Nat→Prop}:∀{p:List WN} {d:Nat} {r:Ty} {h:Value} {rows:List r.D} {F:AA4} {q:Ty} {ys:List q.D} {v:Value},Ow w S d (.sl r) [h] rows F→DA r rows p→
  Gy r rows p=some ⟨q,ys⟩→d≤p.length→Ij w h p=some v→Rd w S (.sl q) [v] ys
 |p,0,r,h,rows,F,q,ys,v,ho,hp,hg,_,hv=>by
  simp only[Ow]at ho;obtain⟨h',k,hr⟩:=nj ho.1 hp hg;simp_all
 |[],d+1,r,h,rows,F,q,ys,v,ho,hp,hg,hd,hv=>by simp_all
 |s::p,d+1,r,h,rows,F,q,ys,v,ho,hp,hg,hd,hv=>by
  simp only[DA]at hp;obtain⟨hi,PC,hp⟩:=hp;simp only[Gy]at hg;obtain⟨a,len,cap,rfl⟩:∃a len cap,h= .slice a len cap:=by
   have:=ho;simp only[Ow]at this;grind
  split at hg
  case h_2=>cases hg
  rename_i q' x' fz;rw[fz]at hp;obtain⟨b,o,arr,ty,fr,cs,G,R,rfl,hb,hu,hbd,c1,c2,c3,pz,hback⟩:=ta ho hi;obtain⟨u,A1,A2,k1,k2,k3,k4⟩:=eD c3 fz;simp only[Ij]at hv;rw[PC,c2 _ _ k1]at hv;exact wb k2 hp hg (by simp_all) hv
theorem y8{E:Env}{σ:St}{a:Act}{w:World}(h:Rel E σ a w){b i sz j:Nat}{p:List WN}{va v:Value}(hva:VR E w σ.bx (.JQ b p i sz j) va){x:XV}(hv:XR E w σ.bx x v)(h1c:∀u∈v.cells.toList,u.oneCell' =true)
  {σ':St} (e:LG σ (.c (.JQ b p i sz j)) x=some σ'):
  ∃bb oo E',va= .pointer (some ⟨bb,oo,none⟩)∧w.there bb oo v.cells.toList.length∧Rel E' σ' a (w.setCells bb oo v.cells.toList)∧Q5 [b] E σ.bx w E' σ'.bx (w.setCells bb oo v.cells.toList)∧σ'.tm.length=σ.tm.length:=by
 unfold LG Zr at e;split at e
 ·rename_i b0 _ _ _ _ b' s p' off n heq
  cases heq;split at e
  case isFalse=>cases e
  rename_i hbb;subst hbb;split at e
  case h_2=>cases e
  rename_i d r rows hb;simp only[AMQ,AMI]at e;obtain⟨q,⟨⟨q0,ys⟩,hg,rfl⟩,e⟩:=e;dsimp only at e;have Kg:=(AMK.1 hb).1;obtain⟨F,⟨hd1,ho⟩,hB⟩:=h.bx.take hb;obtain⟨A,W,pF,ho2⟩:=Jm (d:=min d (p'.length+1)) (by omega) ho;have Xg:=hB.perm (G':=A++W++[]) (by simp_all);obtain⟨hle,hB3⟩:=Xg.share
  generalize hE1:({ E with S:=fun c=>E.S c∨c∈W,T:=fun c=>E.T c∨c∈W }:Env)=E1 at hle hB3
  have ho3:Ow w E1.S (min d (p'.length+1)) (.sl r) [E1.Hl b'] rows A:=by
   rw[hle.Hl];grind
  have hB4:=hB3.put (b:=b') (B:= .sl (min d (p'.length+1)) r rows) (by simp_all) ⟨by omega,ho3⟩;rw[AXc]at hB4;have hk:SW E w σ.bx E1 w (σ.bx.set b' (.sl (min d (p'.length+1)) r rows)):=by
   refine⟨by simp,fun _ _=>by rw[hle.Hk],hle.T,hle.S,h.bx.st,fun _ _=>rfl,fun c d' r' Cz hc e=> ?_⟩;by_cases hcb:b' =c
   ·subst hcb
    rw[ATT Kg]at e;simp only[AMF,Bx.sl.injEq]at e;obtain⟨rfl,rfl,e⟩:=e;obtain rfl:=ARx e;exact⟨d,rows,hb,fun p hp q ys hg=>⟨hp,⟨ys,hg,rfl⟩,fun h' hh=>by rw[hle.Hl];omega⟩⟩
   ·rw[AS4 hcb]at e
    exact⟨d',Cz,e,fun p hp q ys hg=>⟨hp,⟨ys,hg,rfl⟩,fun h' hh=>by rw[hle.Hl];omega⟩⟩
  have bd:VR E w σ.bx (.win b' (s::p') off n) v:=hv;have Zv:XR E1 w (σ.bx.set b' (.sl (min d (p'.length+1)) r rows)) (.c (.sl true q0 ((ys.drop off).take n))) v:=by
   simp only[VR,hb]at bd;obtain⟨_,hp,q1,ys1,a1,len,cap,g1,g2,g3,rfl⟩:=bd;rw[hg]at g1;simp only[AMF,AM9]at g1;obtain⟨rfl,g1⟩:=g1;obtain rfl:=ARx g1;have:=wb ho3 hp hg (by grind) (by rw[hle.Hl];omega);exact zO this g2
  have hr:Rel E1 { σ with bx:=σ.bx.set b' (.sl (min d (p'.length+1)) r rows) } a w:=
   ⟨h.NT,h.tm.imp fun _ _ hx=>Og hk hx,hB4.turn (E':=E1) (w':=w) (fun _ _ hv=>GH ⟨by simp,fun _ _=>rfl,fun _ h=>h,fun _ h=>h,hB3.st,fun _ _=>rfl,fun c d' r' Cz hc e=>by
    grind⟩ hv) (fun _ h=>h) (fun _ _=>rfl) (fun _ _=>rfl) (fun _ _ _=>rfl) fun F hF=>hF⟩
  obtain⟨bb,oo,E',q1,q2,q3,q4,q5⟩:=sC hr (GH hk hva) Zv h1c e;refine⟨bb,oo,E',q1,q2,q3,⟨(hle.base w).trans q4.base,by simpa using q4.len,fun c hc=> ?_,fun c hc=> ?_,fun c B B' hct hB TL hd=> ?_⟩,q5⟩
  ·have:=q4.ids c (by simp_all)
   exact⟨this.1.trans (by rw[hle.Hk]),this.2.trans (by rw[hle.Hl])⟩
  ·refine q4.dead c ?_
   grind
  ·have hcb:b'≠c:=fun e=>hct (by simp[e])
   obtain⟨f1,f2⟩:=q4.frame c B B' hct (by simp_all) TL hd;refine⟨f1,fun c' Zb=>f2 c' ?_⟩;cases B with
   |mem cs=>exact Zb.trans (by rw[hle.Hk])
   |sl d0 r0 Rz=>simp only[xq]at Zb⊢;rw[hle.Hl];omega
   |dead=>exact Zb
 grind[sC]
def oL:Op→Bool
 | .call { callee:= .value _,.. }=>true
 |_=>false
section
variable{Y:Type} {P:Program} {T:JY} (hT:Eo P T) {o:Oper} {E:Env} {σ:St} {a:Act} {w:World} {k:K Y} {y:Y}
include hT
theorem yj(h:Rel E σ a w){t:TypeId}{oa ox:Operand}(ho:o.op= .store t oa ox){ti:TI}(Um:T.get t=some ti)
  (hc:(σ.ev ox).cells.length=ti.size∧ti.size≠0∧(σ.ev ox).cells.all AV.known=true) {σ':St} (hs:LG σ (σ.ev oa) (σ.ev ox)=some σ') (e:k (.c .undef) σ' =some y):LZ P o E σ a w k y:=by
 obtain⟨c1,c2,c3⟩:=hc;have cF:(σ.ev ox).cells≠[]:=fun hh=>by simp_all
 obtain⟨VC,h1c⟩:=pR (h.ev ox) c3 cF;have hlen:(a.eval ox).cells.toList.length=ti.size:=by rw[←CT.len VC];omega
 have hi:(P.info? t).map (·.size)=some (a.eval ox).cells.toList.length:=by grind[Eo.size]
 have hva:=h.ev oa;have fin:∀{bb oo:Nat} {E':Env},a.eval oa= .pointer (some ⟨bb,oo,none⟩)→w.there bb oo (a.eval ox).cells.toList.length→Rel E' σ' a (w.setCells bb oo (a.eval ox).cells.toList)→
   Q5 (KM (fun _=>none) σ o.op) E σ.bx w E' σ'.bx (w.setCells bb oo (a.eval ox).cells.toList)→σ'.tm.length=σ.tm.length→LZ P o E σ a w k y:=by
  intro bb oo E' e1 e2 e3 e4 e5;have hr:=nS (P:=P) e2 hi h1c;refine⟨undef,_,E',.c .undef,σ',.inr ⟨?_,rfl⟩,e3,trivial,e4,e5,e⟩;grind[execOp,Sem.run_bind,Result.andThen_ok,Sem.run_pure]
 generalize hxa:σ.ev oa=xa at hs hva
 cases xa with
 |agg l=>simp[LG,Zr,gw]at hs
 |MH l=>simp[LG,Zr,gw]at hs
 |c x=>
  cases x with
  |IC b j=>
   simp only[LG,Zr,AMv,gw]at hs;split at hs
   case h_2=>cases hs
   rename_i cs hb;simp only[AMI]at hs;obtain⟨dM,hs,rfl⟩:=hs;have AX8:b<σ.bx.length∧a.eval oa= .pointer (some ⟨E.Hk b,j,none⟩):=hva;obtain⟨q1,q2,q3⟩:=ACe h hb VC cF hs;exact fin AX8.2 q1 q2 (by grind[KM]) rfl
  |JQ b p i sz j=>
   obtain⟨bb,oo,E',q1,q2,q3,q4,q5⟩:=y8 h hva (h.ev ox) h1c hs;grind[KM]
  |_=>simp[LG,Zr,gw]at hs
omit hT in
theorem xg(h:Rel E σ a w){x:Operand}(ho:o.op= .assign x)(e:ai σ (σ.ev x) k=some y):LZ P o E σ a w k y:=by
 have hr:(execOp a.eval o).run P w= .ok (.value (a.eval x)) w:=by simp only[execOp,ho,Sem.run_pure]
 have hv:=h.ev x;unfold ai at e;split at e
 ·rename_i b off n hx
  rw[hx]at hv;simp only[AMQ]at e;obtain⟨⟨r,rows,bx,d⟩,e1,e⟩:=e;dsimp only at e;have X5:VR E w σ.bx (.win b [] off n) (a.eval x):=hv;obtain⟨hd,F1,F2,k1,ho1⟩:=fF h.bx (FH.refl _) X5 e1;obtain⟨Fs0,hB1,Xg⟩:=k1.boxes;simp only[AM5]at Xg;have nd:=(ANN.1 (ANN.1 Xg.nodup).2.1).1;obtain⟨r1,r2,r3⟩:=TA h k1 (w':=w) hd ho1 (fun c hc=> .inl (AOs.2 (.inl hc))) nd (fun c hc=>Xg.lt c (by simp[hc])) (fun _ _ _=>rfl) ⟨rfl,rfl,rfl,AQW _⟩;exact⟨_,_,_,_,_,.inl hr,r1,r3,r2.any,rfl,e⟩
 ·exact LZ.same h hr hv e
theorem ACc{Γ:Nat→Option QU}(h:Rel E σ a w)(e:WZ T Γ o σ k=some y)(sb:oL o.op=false):LZ P o E σ a w k y:=by
 have same:∀{v:Value} {x:XV},(execOp a.eval o).run P w= .ok (.value v) w→XR E w σ.bx x v→k x σ=some y→LZ P o E σ a w k y:=fun h1 h2 h3=>LZ.same h h1 h2 h3
 obtain⟨Fs,hB,hS⟩:=h.bx;have st:=hS.st;unfold WZ at e;split at e
 ·rename_i x ho
  exact same (v:=a.eval x) (by grind[execOp,Sem.run_pure]) (h.ev x) e
 ·grind[xg]
 ·rename_i c xa xb ho
  split at e
  case h_2=>cases e
  rename_i p hp;have hc:=h.ev c;rw[hp]at hc;have Zb:=Rg (E:=E) (w:=w) (vw:=σ.bx) hc;refine same (v:=if p then a.eval xa else a.eval xb) (x:=if p then σ.ev xa else σ.ev xb) (by simp[execOp,ho,Zb,asBool]) (by cases p<;>simp[h.ev]) ?_
  grind[ADt]
 ·grind[yU]
 ·grind[AD_]
 ·grind[zG]
 ·grind[nI]
 ·rename_i t x ho
  split at e
  case h_2=>cases e
  rename_i z hz;obtain⟨u,h1,h2⟩:=vu hT hB st hz (h.ev x);grind[execOp,Sem.run_bind,Result.andThen_ok,Sem.run_pure]
 ·grind[yj]
 ·rename_i x ho
  have hx:=h.ev x;split at e
  ·rename_i b j hp
   rw[hp]at hx;have zo:b<σ.bx.length∧a.eval x= .pointer (some ⟨E.Hk b,j,none⟩):=hx;grind[execOp,Sem.run_pure]
  ·rename_i b p i sz j hp
   rw[hp]at hx;have hpt:cL (a.eval x)=true:=hx.1;grind[cL,execOp,Sem.run_pure]
  ·rename_i s r z j hp
   rw[hp]at hx;obtain⟨bb,oo,cs,hv,hrest⟩:=hx;exact same (v:=a.eval x) (x:= .c (.PE s r z j)) (by grind[execOp,Sem.run_pure]) ⟨bb,oo,cs,hv,hrest⟩ e
  ·rename_i f J8 hp
   rw[hp]at hx;have zo:(∀b∈J8,b<σ.bx.length)∧a.eval x= .func (.func f) #[] (J8.map fun b=>Value.pointer (some ⟨E.Hk b,0,none⟩)).toArray:=hx;grind[execOp,Sem.run_pure]
  simp_all
 ·rename_i op t x z s ho
  obtain⟨r,val,h1,h2,h3⟩:=fj hT e (h.ev x) (h.ev z) x z;exact same (v:=val) (x:= .c r) (by
   simp only[execOp,ho,Sem.run_bind];simp_all) h3 h1
 ·rename_i op t x ho
  obtain⟨r,val,h1,h2,h3⟩:=lT (P:=P) e (h.ev x);exact same (v:=val) (x:= .c r) (by grind[execOp,Sem.run_bind,Result.andThen_ok,Sem.run_pure]) h3 h1
 ·grind[ABR]
 ·rename_i f first J8 ho
  split at e
  case isFalse=>cases e
  rename_i hf;split at e
  case h_2=>cases e
  rename_i bs hbs;obtain⟨q1,q2⟩:=p7 hbs (evs h J8.toList);have Aaf:first.map a.eval= #[]:=by
   simp_all
  have AcN:J8.map a.eval=(bs.map fun b=>Value.pointer (some ⟨E.Hk b,0,none⟩)).toArray:=by
   grind
  refine same (v:= .func (.func f) #[] (bs.map fun b=>Value.pointer (some ⟨E.Hk b,0,none⟩)).toArray) ?_ (x:= .c (.fn f bs)) ⟨q1,rfl⟩ e
  grind[execOp,Instr.makeFunc,Sem.run_bind,Sem.run_pure,Result.andThen_ok]
 ·grind[ACG]
 ·rename_i t x lo hi ho
  obtain⟨z,val,h1,h2,h3⟩:=jS hT hB st e (h.ev x) (AA5 h lo) (AA5 h hi);grind[execOp,Sem.run_bind,Result.andThen_ok,Sem.run_pure]
 ·rename_i t x f ho
  split at e
  case h_2=>cases e
  rename_i z hz;obtain⟨u,h1,h2⟩:=i_ hT hz (h.ev x);grind[execOp,Sem.run_bind,Result.andThen_ok,Sem.run_pure]
 ·rename_i t x f ho
  split at e
  case h_2=>cases e
  rename_i z hz;obtain⟨u,h1,h2⟩:=lh hT hz (h.ev x);grind[execOp,Sem.run_bind,Result.andThen_ok,Sem.run_pure]
 ·rename_i t x i ho
  obtain⟨z,val,h1,h2,h3⟩:=iv hT hB st e (h.ev x) (h.ev i);grind[execOp,Sem.run_bind,Result.andThen_ok,Sem.run_pure]
 ·rename_i t x i ho
  obtain⟨z,val,h1,h2,h3⟩:=cJ hT e (h.ev x) (h.ev i);grind[execOp,Sem.run_bind,Result.andThen_ok,Sem.run_pure]
 ·rename_i x i ho
  split at e
  case h_2=>cases e
  rename_i z hz;obtain⟨u,h1,h2⟩:=cm (P:=P) hz (h.ev x);grind[execOp,Sem.run_bind,Result.andThen_ok,Sem.run_pure]
 ·rename_i f args rU ho
  rw[ho]at sb;cases sb
 ·rename_i args rU ho
  split at e
  ·rename_i s t H_ hts
   obtain⟨x,rfl,hx⟩:=XL H_;have hv:=h.ev x;rw[hx]at hv;have X5:=XW (E:=E) (w:=w) (vw:=σ.bx) hv;split at e
   case isFalse=>cases e
   rename_i hs;have hu:=XG hT hs;refine same (v:= .int .i64 (s.length:Int)) (x:= .c (.v (.int .i64) (s.length:Int))) ?_ (VR.int (E:=E) (vw:=σ.bx) _ _) e
   have PC:(⟨s.toArray⟩:ByteArray).size=s.length:=by rfl
   simp[execOp,ho,resolve,invoke,builtin,Builtin.len_,hts,X5,BZ hu,goInt,PC]
  ·rename_i z t _ H_ hts
   obtain⟨x,rfl,hx⟩:=XL H_;have hv:=h.ev x;rw[hx]at hv;split at e
   case isFalse=>cases e
   rename_i hs;split at e
   case h_2=>cases e
   rename_i n hn;obtain⟨el,hu⟩:=lV hT hs;obtain⟨ad,cap,X5⟩:=l5 hB st hn hv;refine same (v:= .int .i64 (n:Int)) (x:= .c (.v (.int .i64) (n:Int))) ?_ (VR.int (E:=E) (vw:=σ.bx) _ _) e
   simp[execOp,ho,resolve,invoke,builtin,Builtin.len_,hts,X5,BZ hu,goInt]
  simp_all
 ·rename_i args rU ho
  split at e
  case h_2=>cases e
  rename_i x1 x2 H_;exact wv hT h ho rfl H_ e
 ·rename_i args rU ho
  split at e
  case h_2=>cases e
  rename_i x H_;exact za hT h ho rfl H_ e (fun b p off n hx=>by grind[KM])
 ·rename_i args rU ho
  split at e
  case h_2=>cases e
  rename_i x1 x2 H_;obtain⟨o1,o2,rfl,hx1,hx2⟩:=XH H_;have bd:=h.ev o1;have Zv:=h.ev o2;rw[hx1]at bd;rw[hx2]at Zv;obtain⟨r,val,h1,h2,h3⟩:=TF (P:=P) (big:=true) e bd Zv rU #[] o.type;simp only[AS_]at h2;exact same (v:=val) (x:= .c r) (by simp[execOp,ho,resolve,invoke,builtin,h2]) h3 h1
 ·rename_i args rU ho
  split at e
  case h_2=>cases e
  rename_i x1 x2 H_;obtain⟨o1,o2,rfl,hx1,hx2⟩:=XH H_;have bd:=h.ev o1;have Zv:=h.ev o2;rw[hx1]at bd;rw[hx2]at Zv;obtain⟨r,val,h1,h2,h3⟩:=TF (P:=P) (big:=false) e bd Zv rU #[] o.type;simp only[AMO,AOR]at h2;exact same (v:=val) (x:= .c r) (by simp[execOp,ho,resolve,invoke,builtin,h2]) h3 h1
 simp_all
end
end Go.Fw
end
