/- The framework, part 1: a checked interpreter of the model's code over abstract states; no claim is made here. -/
import Derived.Calls
import Derived.Still
import Derived.Laws.World
import Derived.Laws.AppendOwn
import Derived.RowKit3
import Derived.Deep.MidRow
import Derived.Laws.StructEq
import Derived.Lib.ConvBytes
import Derived.Laws.BytesArg
import Derived.Tactics
import Derived.OrdersHeld
import Derived.ChangeArms
import Derived.ChangeOld
import Derived.DataReads
import Derived.Below
import Derived.Shelf.Spec.SlicesInsertGrow
import Derived.Shelf.Slices.Delete
set_option linter.unusedVariables false
set_option linter.unusedSimpArgs false
set_option linter.unusedSectionVars false
abbrev AD_:Type:=Int × Int × Bool × List UInt8 × Unit
abbrev AM3:Type:=List UInt8 × List Int × Bool × Unit
abbrev AHm:Type:=List Int × Bool × Int × Unit
abbrev AHi:Type:=Int × Int × List UInt8 × Unit
abbrev AHt:Type:=Int × List UInt8 × Bool × Unit
abbrev AEp:Type:=Unit × Int × Unit × Unit × Unit × Int × Unit × Unit × Unit × Unit × Bool × Unit
abbrev AAB:Type:=List Int
abbrev ANm:Type:=Int × Bool × Int × Int × Bool × List UInt8 × Unit
abbrev ABS:Type:=List Int × Int × Unit
abbrev ADe:Type:=Int × Int × Int × Int × List UInt8 × Unit
abbrev AEC:Type:=List Int × Int × Int × Unit
abbrev AHv:Type:=Int × Int × Unit × Unit × Bool × Unit × Unit
abbrev ABi:Type:=Bool × Unit
abbrev ABq:Type:=Int × Unit
abbrev ANk:Type:=Unit × Unit × Int × Unit
abbrev ADI:Type:=Unit × Unit
abbrev ADM:Type:=List Int × Unit
abbrev AHw:Type:=Unit × Int × Unit
abbrev ABU:Type:=List Nat
abbrev AIf:Type:=Int × Int × Unit × Unit
abbrev AIK:Type:=Int × Unit × Unit
abbrev ANl:Type:=Int × Bool × Unit
abbrev AD9:Type:=Nat × Nat
abbrev AHr:Type:=Unit × List Int × Unit
abbrev AHq:Type:=Nat × List Nat
abbrev ACH:Type:=List UInt8
abbrev AHs:Type:=List UInt8 × Unit
abbrev ABY:Type:=Int × Int × List Int × List AD_ × Bool × List AAB × Unit
abbrev ACd:Type:=List AD_ × List AD_ × Int × Unit
abbrev AEA:Type:=Int × Int × List AHi × Unit
abbrev ACi:Type:=Int × List AM3 × Unit
abbrev ABJ:Type:=List AD_
abbrev AAH:Type:=List AHm
abbrev AAT:Type:=List AHt
abbrev ACc:Type:=List AHm × Int × Unit
abbrev ANq:Type:=AEp × Int × Unit
abbrev ACG:Type:=List AM3
abbrev ANs:Type:=ANk × Bool × Unit
abbrev ANu:Type:=AHv × Bool × Unit
abbrev AEX:Type:=AEC × Unit
abbrev AEJ:Type:=AHw × Unit
abbrev AEF:Type:=List AHi
abbrev AN8:Type:=AIK × Bool × Unit
abbrev AN2:Type:=AHw × Bool × Unit
abbrev AN0:Type:=AD_ × Bool × Unit
abbrev AD7:Type:=List ADe
abbrev AHl:Type:=AEC × List Int × Unit
abbrev AFk:Type:=ANl × Unit
abbrev AFW:Type:=ANk × Unit
abbrev AFE:Type:=AHv × Unit
abbrev ADT:Type:=List ANm
abbrev AGn:Type:=AIf × Unit
abbrev AN_:Type:=AEp × Bool × Unit
abbrev AGU:Type:=AIK × Unit
abbrev AG7:Type:=AEp × Unit
abbrev AEB:Type:=ABq × Unit
abbrev AHp:Type:=ADe × Unit
abbrev AHn:Type:=AD_ × Unit
abbrev AKo:Type:=AIK × Int × Bool × Unit
abbrev AKm:Type:=AHw × Int × Bool × Unit
abbrev ALc:Type:=AEp × Unit × AEp × Unit
abbrev AKZ:Type:=AIf × Int × Unit
abbrev ABl:Type:=List Int × Int × List ACd × List Int × List AHm × Int × List ACi × List ABY × List AEA × List AHt × Bool × Unit
abbrev AAQ:Type:=List ACd
abbrev AAj:Type:=List ACi
abbrev ABA:Type:=List AEA
abbrev AA6:Type:=List ABY
abbrev AEQ:Type:=List Int × ABJ × List AAB × Unit
abbrev AEK:Type:=ABJ × ABJ × Unit
abbrev AED:Type:=ANq × Unit
abbrev AEV:Type:=ANs × Unit
abbrev AFN:Type:=ANu × Unit
abbrev AE5:Type:=ACG × Unit
abbrev AE2:Type:=AAH × Unit
abbrev AGt:Type:=AEF × Unit
abbrev AGF:Type:=ABJ × Unit
abbrev AHU:Type:=AN0 × Unit
abbrev AHk:Type:=AN2 × Unit
abbrev AHj:Type:=AN8 × Unit
abbrev AMg:Type:=AEC × List Int × ABJ × List AAB × Unit
abbrev AHu:Type:=Unit × ABJ × Unit
abbrev AHo:Type:=AN_ × Unit
abbrev AJ6:Type:=AIf × Unit × AEF × Unit
abbrev AL5:Type:=AEC × ABJ × ABJ × Unit
abbrev AMQ:Type:=AEC × ACG × Unit
abbrev AMI:Type:=AEC × AAH × Unit
abbrev AEE:Type:=List Int × AAQ × List Int × AAH × AAj × AA6 × ABA × AAT × Unit
abbrev AE0:Type:=AEp × List Int × AAQ × List Int × AAH × AAj × AA6 × ABA × AAT × Unit
abbrev AMq:Type:=List Int × Int × AAQ × List Int × AAH × Int × AAj × AA6 × ABA × AAT × Bool × Unit
abbrev AMi:Type:=AEp × List Int × AAQ × Unit × AAH × AAj × AA6 × ABA × AAT × List Int × Unit
abbrev AKy:Type:=List Int × AAQ × Unit × AAH × AAj × AA6 × ABA × AAT × List Int × Unit
abbrev AK1:Type:=AAQ × ABJ × ABJ × Unit
abbrev AMs:Type:=AMq × Bool × Unit
abbrev AOB:=@Bool.eq_false_or_eq_true
abbrev AOJ:=@if_pos
abbrev AOK:=@if_neg
abbrev AOM:=@List.getElem?_eq_getElem
abbrev AON:=@Option.some.injEq
abbrev AOP:=@Option.map_eq_some_iff
abbrev AOS:=@List.getElem?_eq_some_iff
abbrev AOc:=@Option.bind_eq_some_iff
abbrev AOk:=@cond_false
abbrev AOv:=@Option.bind_some
abbrev AOw:=@Bool.and_eq_true
abbrev AOx:=@Bool.not_true
abbrev AO2:=@Int.toNat_natCast
abbrev AO5:=@Bool.false_eq_true
abbrev AO7:=@List.getElem_mem
abbrev APk:=@List.drop_eq_nil_of_le
abbrev APm:=@cond_true
abbrev APo:=@decide_eq_true_eq
abbrev APr:=@Bool.true_and
abbrev AQM:=@List.append_assoc
abbrev AQO:=@List.append_nil
abbrev ARQ:=@Sigma.mk.injEq
abbrev ART:=@List.length_cons
abbrev ARZ:=@List.nodup_append
abbrev ARh:=@List.mem_append
abbrev AR1:=@List.getElem?_append_left
abbrev ASB:=@List.length_append
abbrev ASH:=@Nat.mul_le_mul_right
abbrev ASU:=@List.mem_of_getElem?
abbrev ASY:=@List.mem_cons
abbrev ASa:=@List.getElem?_append_right
abbrev ASw:=@Bool.not_eq_true
abbrev AS0:=@List.length_nil
abbrev AS2:=@Bool.not_eq_false'
abbrev AS8:=@beq_eq_false_iff_ne
abbrev ATF:=@if_false
abbrev ATX:=@Nat.le_refl
abbrev ATj:=@List.cons.injEq
abbrev AUM:=@List.eq_nil_of_length_eq_zero
abbrev AUN:=@List.drop_zero
abbrev AUW:=@Prod.mk.injEq
abbrev AUc:=@List.length_filter_le
abbrev AU4:=@List.mem_singleton
abbrev AU_:=@eq_of_heq
abbrev AVG:=@Nat.le_trans
abbrev AVH:=@decide_eq_true
abbrev AVI:=@List.getElem?_map
abbrev AVJ:=@List.nil_append
abbrev AVK:=@List.mem_flatten
abbrev AVL:=@List.getElem?_set_ne
abbrev AVM:=@List.pairwise_cons
abbrev AVN:=@Bool.not_false
abbrev AVO:=@List.getElem_of_mem
abbrev AVP:=@Bool.false_or
abbrev AVQ:=@List.mem_or_eq_of_mem_set
abbrev AVR:=@if_true
abbrev AVS:=@Nat.lt_of_lt_of_le
abbrev AVT:=@Option.isSome_some
abbrev AVU:=@List.take_of_length_le
abbrev AVV:=@List.filter_cons
abbrev AVW:=@and_true
abbrev AVX:=@Bool.or_eq_true
abbrev AVY:=@decide_eq_false
abbrev AVZ:=@Bool.false_and
abbrev AVa:=@List.take_succ_eq_append_getElem
abbrev AVb:=@Option.isSome_none
abbrev AVc:=@Option.getD_some
abbrev AVd:=@List.drop_eq_getElem_cons
abbrev AVe:=@List.getElem?_set_self
abbrev AVf:=@List.map_congr_left
abbrev AVg:=@Bool.not_eq_true'
abbrev AVh:=@List.mem_map
abbrev AVi:=@beq_iff_eq
abbrev AVj:=@List.length_set
abbrev AVk:=@List.all_eq_true
abbrev AVl:=@List.all_cons
abbrev AVm:=@Bool.and_true
abbrev AVn:=@Nat.add_mul
abbrev AVq:=@List.flatten_append
abbrev AVt:=@Nat.zero_add
abbrev AVz:=@List.length_replicate
abbrev AV1:=@List.eq_of_mem_replicate
abbrev AV2:=@List.singleton_append
abbrev AV_:=@Nat.add_assoc
abbrev AWA:=@List.length_map
abbrev AWB:=@List.mem_filter
abbrev AWJ:=@List.cons_append
abbrev AWl:=@List.drop_length
abbrev AWn:=@List.flatten_cons
abbrev AWt:=@Bool.eq_false_iff
abbrev AW2:=@List.map_cons
abbrev AW4:=@Nat.add_zero
abbrev AW6:=@Nat.le_of_lt
abbrev AW8:=@decide_eq_false_iff_not
abbrev AXP:=@List.map_map
abbrev AXQ:=@Option.bind_assoc
abbrev AXU:=@List.Perm.append_right
abbrev AXj:=@List.getElem_cons_zero
abbrev AX1:=@List.contains_iff_mem
abbrev AYF:=@List.getElem?_eq_none
abbrev AYG:=@List.mem_of_find?_eq_some
abbrev AYV:=@List.mem_of_mem_drop
abbrev AYd:=@List.ext_getElem?
abbrev AYf:=@apply_ite
abbrev AYg:=@Array.length_toList
abbrev AYi:=@Nat.sub_mul
abbrev AYn:=@List.flatten_nil
abbrev AYx:=@List.length_take
abbrev AY6:=@List.not_mem_nil
abbrev AY7:=@List.set_cons_zero
abbrev AY8:=@List.getElem?_drop
abbrev AZD:=@List.getElem?_take
abbrev AZL:=@List.Perm.append_left
abbrev AZO:=@List.nodup_cons
abbrev AZW:=@Array.getD_eq_getD_getElem?
abbrev AZZ:=@List.find?_cons
abbrev AZf:=@Decidable.not_not
abbrev AZg:=@List.pairwise_map
abbrev AZh:=@List.exists_cons_of_length_eq_add_one
abbrev AZi:=@List.mem_of_mem_take
abbrev AZj:=@Bool.and_false
abbrev AZk:=@List.length_drop
abbrev AZl:=@Option.bind_none
abbrev AZm:=@List.map_nil
abbrev AZn:=@List.length_eq_zero_iff
abbrev AZo:=@Int.eq_ofNat_of_zero_le
abbrev AZp:=@Nat.eq_zero_or_pos
abbrev AZq:=@Array.size_append
abbrev AZr:=@List.size_toArray
abbrev AZs:=@Nat.zero_le
abbrev AZt:=@List.flatMap_cons
abbrev AZu:=@List.set_set
abbrev AZv:=@dite_true
abbrev AZw:=@List.set_append_right
abbrev AZx:=@Bool.true_or
abbrev AZy:=@List.getElem_set_self
abbrev AZz:=@beq_self_eq_true
abbrev AZ0:=@List.mem_flatMap
abbrev AZ1:=@List.mem_cons_of_mem
abbrev AZ2:=@Bool.or_false
abbrev AZ3:=@List.length_pos_iff
abbrev AZ4:=@List.filter_nil
abbrev AZ5:=@List.drop_set_of_lt
abbrev AZ6:=@List.take_set_of_le
abbrev AZ7:=@Bool.eq_iff_iff
abbrev AZ8:=@List.Perm.refl
abbrev AZ9:=@List.mapM_cons
abbrev AZ_:=@List.take_zero
section
namespace Go.Fw
inductive Ty where
 |int (k:IntKind)|bool|str|sl (r:Ty)|unit|cons (c r:Ty)
 deriving DecidableEq
@[reducible] def Ty.D:Ty->Type
 | .int _=>Int
 | .bool=>Bool
 | .str=>List UInt8
 | .sl r=>List r.D
 | .unit=>Unit
 | .cons c r=>c.D×r.D
def Ty.n:Ty->Nat
 | .unit=>0
 | .cons _ r=>r.n+1
 |_=>1
def Ty.z:(t:Ty)->t.D
 | .int _=>(0:Int)
 | .bool=>false
 | .str=>[]
 | .sl _=>[]
 | .unit=>()
 | .cons c r=>(c.z,r.z)
def Ty.flat:Ty->Bool
 | .sl _=>false
 | .cons c r=>c.flat&&r.flat
 |_=>true
def Ty.scalar:Ty->Bool
 | .int _| .bool| .str=>true
 |_=>false
structure Xw where
 i:Nat
 sz:Nat
 j:Nat
inductive AV where
 |v (t:Ty) (x:t.D)
 |sl (s:Bool) (r:Ty) (x:List r.D)
 |nil
 |ref (b:Nat) (p:List Xw)
 |win (b:Nat) (p:List Xw) (off n:Nat)
 |I0 (b j:Nat)
 |Ju (b:Nat) (p:List Xw) (i sz j:Nat)
 |QX (s:Bool) (r:Ty) (x:r.D) (j:Nat)
 |fn (f:Nat) (LO:ABU)
 |sf (f:Nat) (rows:List ((r:Ty)×r.D))
 |AAc
 |undef
def AV.known:AV->Bool
 | .undef=>false
 |_=>true
inductive XV where
 |c (x:AV)
 |agg (l:List AV)
 |NW (l:List (AV ⊕ List AV))
inductive Bx where
 |mem (cs:List AV)
 |sl (d:Nat) (r:Ty) (rows:List r.D)
 |dead
structure St where
 tm:List XV
 bx:List Bx
def Ba:(r:Ty)->(j:Nat)->r.D->Option ((t:Ty)×t.D)
 | .cons c _,0,x=>some ⟨c,x.1⟩
 | .cons _ r,j+1,x=>Ba r j x.2
 | .unit,_,_=>none
 | .int k,0,x=>some ⟨.int k,x⟩
 | .bool,0,x=>some ⟨.bool,x⟩
 | .str,0,x=>some ⟨.str,x⟩
 | .sl r,0,x=>some ⟨.sl r,x⟩
 |_,_+1,_=>none
def qN{a b:Ty}(h:a=b)(x:a.D):b.D:=h▸x
def EK:(r:Ty)->(j:Nat)->r.D->(t:Ty)->t.D->Option r.D
 | .cons c _,0,x,t,y=>if h:t=c then some (qN h y,x.2)else none
 | .cons _ r,j+1,x,t,y=>(EK r j x.2 t y).map fun z=>(x.1,z)
 | .unit,_,_,_,_=>none
 | .int k,0,_,t,y=>if h:t= .int k then some (qN h y)else none
 | .bool,0,_,t,y=>if h:t= .bool then some (qN h y)else none
 | .str,0,_,t,y=>if h:t= .str then some (qN h y)else none
 | .sl r,0,_,t,y=>if h:t= .sl r then some (qN h y)else none
 |_,_+1,_,_,_=>none
def rowAt(r:Ty)(rows:List r.D)(i:Nat):r.D:=rows.getD i r.z
def HZ:(r:Ty)->List r.D->List Xw->Option ((q:Ty)×List q.D)
 |r,rows,[]=>some ⟨r,rows⟩
 |r,rows,s::p=>
  match Ba r s.j (rowAt r rows s.i)with
  |some ⟨.sl q,x⟩=>HZ q x p
  |_=>none
def qP:(r:Ty)->List r.D->List Xw->(q:Ty)->List q.D->Option (List r.D)
 |r,_,[],q,y=>if h:q=r then some (qN (congrArg Ty.sl h) y)else none
 |r,rows,s::p,q,y=>
  match Ba r s.j (rowAt r rows s.i)with
  |some ⟨.sl r',x⟩=>(qP r' x p q y).bind fun x' =>(EK r s.j (rowAt r rows s.i) (.sl r') x').map fun row=>rows.set s.i row
  |_=>none
inductive TD where
 |int (k:IntKind)|bool|str|sl (e:Nat)|st (fs:List AD9)|ptr (e:Nat)|other
structure TI where
 size:Nat
 bytes:Nat
 desc:TD
 row:Option Ty
abbrev KS:=List (Nat×TI)
def KS.get:KS->Nat->Option TI
 |[],_=>none
 |(u,i)::l,t=>if u=t then some i else KS.get l t
def TD.agg:TD->Bool
 | .st _=>true
 |_=>false
def KS.j6(T:KS)(t:Nat):Option Ty:=
 match T.get t with
 |some ti=>ti.row
 |none=>none
def zO:Ty->AV
 | .int k=> .v (.int k) (0:Int)
 | .bool=> .v .bool false
 | .str=> .v .str []
 | .sl _=> .nil
 |_=> .undef
def cY:Ty->List AV
 | .cons c r=>zO c::cY r
 | .unit=>[]
 |t=>[zO t]
def re:Value->AV
 | .int k n=> .v (.int k) n
 | .bool b=> .v .bool b
 | .string s=> .v .str s.data.toList
 | .slice none 0 0=> .nil
 | .pointer none=> .AAc
 |_=> .undef
def ofValue:Value->XV
 | .agg cs=> .agg (cs.toList.map re)
 |v=> .c (re v)
def St.ev(σ:St):Operand->XV
 | .tmp t=>σ.tm.getD t (.c .undef)
 | .const v=>ofValue v
 | .global _=> .c .undef
 | .func f=> .c (.fn f [])
def St.put(σ:St)(dst:Option Tmp)(x:XV):St:=
 match dst with
 |some d=>{ σ with tm:=σ.tm.set d x }
 |none=>σ
def XV.cells:XV->List AV
 | .c x=>[x]
 | .agg l=>l
 | .NW _=>[]
def Rt{β:Ty->Type}(a b:Ty)(x:β a):Option (β b):=if h:a=b then some (h▸x)else none
def OU(bx:List Bx):AV->Option ((r:Ty)×List r.D)
 | .sl _ r x=>some ⟨r,x⟩
 | .ref b p=>
  match bx[b]? with
  |some (.sl _ r rows)=>HZ r rows p
  |_=>none
 | .win b p off n=>
  match bx[b]? with
  |some (.sl _ r rows)=>(HZ r rows p).map fun q=>⟨q.1,(q.2.drop off).take n⟩
  |_=>none
 |_=>none
def Nk(bx:List Bx)(t:Ty)(x:AV):Option t.D:=
 match x with
 | .v u y=>Rt (β:=Ty.D) u t y
 | .nil=>match t with
  | .sl _=>some []
  |_=>none
 |x=>match t with
  | .sl r=>(OU bx x).bind fun q=>Rt (β:=fun r=>List r.D) q.1 r q.2
  |_=>none
def Ie(bx:List Bx):(r:Ty)->List AV->Option r.D
 | .unit,[]=>some ()
 | .cons c r,x::l=>(Nk bx c x).bind fun a=>(Ie bx r l).map fun b=>(a,b)
 |_,_=>none
def lenOf(bx:List Bx):AV->Option Nat
 | .nil=>some 0
 | .sl _ _ x=>some x.length
 | .ref b p=>
  match bx[b]? with
  |some (.sl _ r rows)=>(HZ r rows p).map fun q=>q.2.length
  |_=>none
 | .win b _ _ n=>
  match bx[b]? with
  |some (.sl _ _ _)=>some n
  |_=>none
 |_=>none
inductive AP where
 |v (t:Ty)
 |sl (s:Bool) (r:Ty)
 |nil
 |ref (i:Nat)
 |ptr (i j:Nat)
 |pS (r:Ty)
 |fn (f:Nat) (LO:ABU)
 |sf (f:Nat) (rs:List Ty)
 |any
 |l9 (i sz:Nat)
inductive XP where
 |c (p:AP)
 |agg (l:List AP)
 |row (r:Ty)
 |NW (l:List (AP ⊕ List AP))
inductive BP where
 |mem (l:List AP)
 |sl (d:Nat) (r:Ty)
 |gone
structure BI where
 EH:List (Nat×XP)
 HO:List BP
@[reducible] def ar:List Ty->Type
 |[]=>Unit
 |r::l=>r.D×ar l
def ar.mk:(l:List Ty)->ar l->List ((r:Ty)×r.D)
 |[],_=>[]
 |r::l,x=>⟨r,x.1⟩::ar.mk l x.2
@[reducible] def AP.V:AP->Type
 | .sf _ rs=>ar rs
 | .v t=>t.D
 | .sl _ r=>List r.D
 | .pS r=>r.D
 | .l9 _ _=>Nat×Nat
 |_=>Unit
@[reducible] def ZJ.V:List AP->Type
 |[]=>Unit
 |p::l=>p.V×ZJ.V l
@[reducible] def aA.V:List (AP ⊕ List AP)->Type
 |[]=>Unit
 | .inl p::l=>p.V×aA.V l
 | .inr q::l=>ZJ.V q×aA.V l
@[reducible] def XP.V:XP->Type
 | .c p=>p.V
 | .agg l=>ZJ.V l
 | .row r=>r.D
 | .NW l=>aA.V l
@[reducible] def BP.V:BP->Type
 | .mem l=>ZJ.V l
 | .sl _ r=>List r.D
 | .gone=>Unit
@[reducible] def HU.V:List (Nat×XP)->Type
 |[]=>Unit
 |(_,p)::l=>p.V×HU.V l
@[reducible] def KM.V:List BP->Type
 |[]=>Unit
 |p::l=>p.V×KM.V l
@[reducible] def BI.V (s:BI):Type:=HU.V s.EH×KM.V s.HO
def AP.mk(m:Nat->Nat):(p:AP)->p.V->AV
 | .v t,x=> .v t x
 | .sl s r,x=> .sl s r x
 | .nil,_=> .nil
 | .ref i,_=> .ref (m i) []
 | .ptr i j,_=> .I0 (m i) j
 | .pS r,x=> .QX false r x 0
 | .fn f LO,_=> .fn f (LO.map m)
 | .sf f rs,x=> .sf f (ar.mk rs x)
 | .any,_=> .undef
 | .l9 i sz,k=> .ref (m i) [⟨k.1,sz,k.2⟩]
def ZJ.mk(m:Nat->Nat):(l:List AP)->ZJ.V l->List AV
 |[],_=>[]
 |p::l,x=>p.mk m x.1::ZJ.mk m l x.2
def q7:(r:Ty)->r.D->List AV
 | .unit,_=>[]
 | .cons c r,x=>(match c,x.1 with
  | .sl q,y=>AV.sl false q y
  |c,y=> .v c y)::q7 r x.2
 | .sl q,x=>[.sl false q x]
 | .int k,x=>[.v (.int k) x]
 | .bool,x=>[.v .bool x]
 | .str,x=>[.v .str x]
def aA.mk(m:Nat->Nat):(l:List (AP ⊕ List AP))->aA.V l->List (AV ⊕ List AV)
 |[],_=>[]
 | .inl p::l,x=> .inl (p.mk m x.1)::aA.mk m l x.2
 | .inr q::l,x=> .inr (ZJ.mk m q x.1)::aA.mk m l x.2
def XP.mk(m:Nat->Nat):(p:XP)->p.V->XV
 | .c p,x=> .c (p.mk m x)
 | .agg l,x=> .agg (ZJ.mk m l x)
 | .row r,x=> .agg (q7 r x)
 | .NW l,x=> .NW (aA.mk m l x)
def BP.mk(m:Nat->Nat):(p:BP)->p.V->Bx
 | .mem l,x=> .mem (ZJ.mk m l x)
 | .sl d r,x=> .sl d r x
 | .gone,_=> .dead
def HU.mk(m:Nat->Nat):(l:List (Nat×XP))->HU.V l->List XV->List XV
 |[],_,tm=>tm
 |(i,p)::l,x,tm=>HU.mk m l x.2 (tm.set i (p.mk m x.1))
def KM.mk(m:Nat->Nat):(l:List BP)->KM.V l->List Bx
 |[],_=>[]
 |p::l,x=>p.mk m x.1::KM.mk m l x.2
def BI.st(s:BI)(n:Nat)(x:s.V):St:=
 { tm:=HU.mk id s.EH x.1 (List.replicate n (.c .undef)),bx:=KM.mk id s.HO x.2 }
abbrev Qi:=List (Option Nat)
def Qi.put(m:Qi)(i b:Nat):Option Qi:=
 match m[i]? with
 |some none=>if m.contains (some b)then none else some (m.set i (some b))
 |some (some b')=>if b' =b then some m else none
 |none=>none
def cf:Qi->List Nat->List Nat->Option Qi
 |m,[],[]=>some m
 |m,i::is,b::bs=>(m.put i b).bind fun m=>cf m is bs
 |_,_,_=>none
def AP.O2(N:Nat)(m:Qi):AP->AV->Option Qi
 | .ref i,.ref b []=>m.put i b
 | .ref i,.nil=>m.put i (N+i)
 | .ref _,_=>none
 | .l9 i sz,.ref b [s]=>if s.sz=sz then m.put i b else none
 | .l9 _ _,_=>none
 | .ptr i j,.I0 b j' =>if j=j' then m.put i b else none
 | .ptr _ _,_=>none
 | .fn f LO,.fn g bs=>if f=g then cf m LO bs else none
 | .fn _ _,_=>none
 | .nil,.nil=>some m
 | .nil,_=>none
 |_,_=>some m
def ZJ.O2(N:Nat):Qi->List AP->List AV->Option Qi
 |m,[],[]=>some m
 |m,p::l,x::xs=>(p.O2 N m x).bind fun m=>ZJ.O2 N m l xs
 |_,_,_=>none
def aA.O2(N:Nat):Qi->List (AP ⊕ List AP)->List (AV ⊕ List AV)->Option Qi
 |m,[],[]=>some m
 |m,.inl p::l,.inl x::xs=>(p.O2 N m x).bind fun m=>aA.O2 N m l xs
 |m,.inr p::l,.inr x::xs=>(ZJ.O2 N m p x).bind fun m=>aA.O2 N m l xs
 |_,_,_=>none
def XP.O2(N:Nat)(m:Qi):XP->XV->Option Qi
 | .c p,.c x=>p.O2 N m x
 | .agg l,.agg xs=>ZJ.O2 N m l xs
 | .row _,.agg _=>some m
 | .NW l,.NW xs=>aA.O2 N m l xs
 |_,_=>none
def HU.O2(N:Nat)(tm:List XV):Qi->List (Nat×XP)->Option Qi
 |m,[]=>some m
 |m,(i,p)::l=>
  match tm[i]? with
  |some x=>(p.O2 N m x).bind fun m=>HU.O2 N tm m l
  |none=>none
def KM.O2(N:Nat)(bx:List Bx):Nat->Qi->List BP->Option Qi
 |_,m,[]=>some m
 |i,m,.mem l::ps=>
  match m[i]? with
  |some (some b)=>
   match bx[b]? with
   |some (.mem cs)=>(ZJ.O2 N m l cs).bind fun m=>KM.O2 N bx (i+1) m ps
   |_=>none
  |_=>none
 |i,m,.sl _ _::ps=>
  match m[i]? with
  |some (some _)=>KM.O2 N bx (i+1) m ps
  |_=>none
 |i,m,.gone::ps=>KM.O2 N bx (i+1) m ps
def DB(bx:List Bx):Qi->List Bx
 |[]=>bx
 |some b::m=>DB (bx.set b .dead) m
 |none::m=>DB bx m
def ar.qR:(l:List Ty)->List ((r:Ty)×r.D)->Option (ar l)
 |[],[]=>some ()
 |r::l,q::qs=>(Rt (β:=Ty.D) q.1 r q.2).bind fun a=>(ar.qR l qs).map fun b=>(a,b)
 |_,_=>none
def ar.rr(bx:List Bx):(l:List Ty)->List Nat->Option (ar l)
 |[],[]=>some ()
 |r::l,b::bs=>(match bx[b]? with
  |some (.mem cs)=>Ie bx r cs
  |_=>none).bind fun a=>(ar.rr bx l bs).map fun c=>(a,c)
 |_,_=>none
def AP.get(bx:List Bx):(p:AP)->AV->Option p.V
 | .sf f rs,x=>match x with
  | .sf g rows=>if f=g then ar.qR rs rows else none
  | .fn g bs=>if f=g then ar.rr bx rs bs else none
  |_=>none
 | .v t,x=>if t.scalar then Nk bx t x else none
 | .sl false r,x=>Nk bx (.sl r) x
 | .sl true r,x=>match x with
  | .sl true q y=>Rt (β:=fun r=>List r.D) q r y
  | .nil=>some []
  |_=>none
 | .pS r,x=>match x with
  | .QX _ q y 0=>Rt (β:=Ty.D) q r y
  | .I0 b 0=>match bx[b]? with
   |some (.mem cs)=>Ie bx r cs
   |_=>none
  | .Ju b p i sz 0=>match bx[b]? with
   |some (.sl _ q rows)=>(HZ q rows p).bind fun s=>if sz=s.1.n then Rt (β:=Ty.D) s.1 r (rowAt s.1 s.2 i)else none
   |_=>none
  |_=>none
 | .nil,_=>some ()
 | .ref _,_=>some ()
 | .ptr _ _,_=>some ()
 | .fn _ _,_=>some ()
 | .any,_=>some ()
 | .l9 _ _,x=>match x with
  | .ref _ [s]=>some (s.i,s.j)
  |_=>none
def ZJ.get(bx:List Bx):(l:List AP)->List AV->Option (ZJ.V l)
 |[],[]=>some ()
 |p::l,x::xs=>(p.get bx x).bind fun a=>(ZJ.get bx l xs).map fun b=>(a,b)
 |_,_=>none
def aA.get(bx:List Bx):(l:List (AP ⊕ List AP))->List (AV ⊕ List AV)->Option (aA.V l)
 |[],[]=>some ()
 | .inl p::l,.inl x::xs=>(p.get bx x).bind fun a=>(aA.get bx l xs).map fun b=>(a,b)
 | .inr p::l,.inr x::xs=>(ZJ.get bx p x).bind fun a=>(aA.get bx l xs).map fun b=>(a,b)
 |_,_=>none
def XP.get(bx:List Bx):(p:XP)->XV->Option p.V
 | .c p,.c x=>p.get bx x
 | .agg l,.agg xs=>ZJ.get bx l xs
 | .row r,.agg xs=>Ie bx r xs
 | .NW l,.NW xs=>aA.get bx l xs
 |_,_=>none
def HU.get(bx:List Bx)(tm:List XV):(l:List (Nat×XP))->Option (HU.V l)
 |[]=>some ()
 |(i,p)::l=>
  match tm[i]? with
  |some x=>(p.get bx x).bind fun a=>(HU.get bx tm l).map fun b=>(a,b)
  |none=>none
def KM.get(bx bk:List Bx):(m:Qi)->(l:List BP)->Option (KM.V l)
 |_,[]=>some ()
 |some b::m,.mem l::ps=>
  match bx[b]? with
  |some (.mem cs)=>(ZJ.get bk l cs).bind fun a=>(KM.get bx bk m ps).map fun c=>(a,c)
  |_=>none
 |some b::m,.sl d r::ps=>
  match bx[b]? with
  |some (.sl d' q rows)=>if 1<=d/\d<=d' then(Rt (β:=fun r=>List r.D) q r rows).bind fun a=>(KM.get bx bk m ps).map fun c=>(a,c)else none
  |_=>none
 |_::m,.gone::ps=>(KM.get bx bk m ps).map fun c=>((),c)
 |_,_=>none
def BI.fit(s:BI)(N:Nat)(m0:Qi)(tm:List XV)(bx:List Bx):Option (s.V×Qi):=
 (HU.O2 N tm m0 s.EH).bind fun m=>(KM.O2 N bx 0 m s.HO).bind fun m=>
  let bk:=DB bx m
  (HU.get bk tm s.EH).bind fun a=>(KM.get bx bk m s.HO).map fun c=>((a,c),m)
def BP.opened:BP->Bx
 | .sl d r=> .sl (d+1) r []
 |_=> .dead
def BI.opens(s:BI)(bx:List Bx):List Bx:=bx++s.HO.map BP.opened
def BI.m0(s:BI):Qi:=List.replicate s.HO.length none
structure Qn where
 ins:BI
 outs:BI
 g:ins.V->Option outs.V
def Z_(m:Qi)(n:Nat)(i:Nat):Nat:=
 match m[i]? with
 |some (some b)=>b
 |_=>n+(i-m.length)
def cH(Jt:Nat->Nat):Nat->(l:List BP)->KM.V l->List Bx->List Bx
 |_,[],_,bx=>bx
 |i,p::l,x,bx=>cH Jt (i+1) l x.2 (if Jt i<bx.length then bx.set (Jt i) (p.mk Jt x.1)else bx++[p.mk Jt x.1])
def gF:(l:List (Nat×XP))->HU.V l->(Nat->Nat)->XV
 |(_,p)::_,x,Jt=>p.mk Jt x.1
 |[],_,_=> .c .undef
def C_:Nat:=2^36
section ops
variable{Y:Type}
abbrev K(Y:Type):=XV->St->Option Y
def St.new(σ:St)(b:Bx):St:={ σ with bx:=σ.bx++[b] }
def AEa(x:Bool)(a b:XV)(σ:St)(k:K Y):Option Y:=cond x (k a σ) (k b σ)
def iG(op:BinOp)(κ:IntKind)(a b:Int)(k:AV->Option Y):Option Y:=
 match op with
 | .add=>k (.v (.int κ) (κ.wrap (a+b)))
 | .sub=>k (.v (.int κ) (κ.wrap (a-b)))
 | .mul=>k (.v (.int κ) (κ.wrap (a*b)))
 | .quo=>if b=0 then none else k (.v (.int κ) (κ.wrap (a.tdiv b)))
 | .rem=>if b=0 then none else k (.v (.int κ) (a.tmod b))
 | .and=>k (.v (.int κ) (κ.wrap (BitVec.ofInt κ.bits a &&& BitVec.ofInt κ.bits b).toNat))
 | .or=>k (.v (.int κ) (κ.wrap (BitVec.ofInt κ.bits a ||| BitVec.ofInt κ.bits b).toNat))
 | .xor=>k (.v (.int κ) (κ.wrap (BitVec.ofInt κ.bits a ^^^ BitVec.ofInt κ.bits b).toNat))
 | .andNot=>k (.v (.int κ) (κ.wrap (BitVec.ofInt κ.bits a &&& ~~~BitVec.ofInt κ.bits b).toNat))
 | .eql=>k (.v .bool (a==b))
 | .neq=>k (.v .bool (a !=b))
 | .lss=>k (.v .bool (decide (a<b)))
 | .leq=>k (.v .bool (decide (a<=b)))
 | .gtr=>k (.v .bool (decide (a>b)))
 | .geq=>k (.v .bool (decide (a>=b)))
 |_=>none
def aI(op:BinOp)(κ:IntKind)(a b:Int)(k:AV->Option Y):Option Y:=
 if b<0 then none else
 match op with
 | .shl=>k (.v (.int κ) (κ.wrap (a*2^min b.toNat κ.bits)))
 | .shr=>k (.v (.int κ) (a.fdiv (2^min b.toNat κ.bits)))
 |_=>none
def j9(op:BinOp)(a b:ACH)(k:AV->Option Y):Option Y:=
 match op with
 | .add=>if a.length+b.length<=C_ then k (.v .str (a++b))else none
 | .eql=>k (.v .bool (a==b))
 | .neq=>k (.v .bool (!(a==b)))
 | .lss=>k (.v .bool (Op.bytesLess a b))
 | .leq=>k (.v .bool (Op.bytesLess a b||a==b))
 | .gtr=>k (.v .bool (!(Op.bytesLess a b||a==b)))
 | .geq=>k (.v .bool (!Op.bytesLess a b))
 |_=>none
def rR:TD->AV->AV->Option Bool
 | .int _,.v (.int j) a,.v (.int k) b=>if j=k then some (a==b)else none
 | .bool,.v .bool a,.v .bool b=>some (a==b)
 | .str,.v .str a,.v .str b=>some (a==b)
 |_,_,_=>none
def L8(T:KS):Nat->List AD9->List AV->List AV->Option Bool
 |_,[],[],[]=>some true
 |i,(o,t)::fs,x::l,z::m=>
  if o=i then
   match T.get t with
   |some ti=>match rR ti.desc x z with
    |some p=>(L8 T (i+1) fs l m).map fun r=>p&&r
    |none=>none
   |none=>none
  else none
 |_,_,_,_=>none
def KS.fields(T:KS)(t:Nat):Option (List AD9):=
 match(T.get t).map TI.desc with
 |some (.st fs)=>some fs
 |_=>none
def xt(T:KS)(t:Nat)(op:BinOp)(a b:XV)(k:AV->Option Y):Option Y:=
 match a,b with
 | .c (.v (.int j) x),.c (.v (.int j') y)=>
  match op with
  | .shl| .shr=>aI op j x y k
  |_=>if j=j' then iG op j x y k else none
 | .c (.v .str x),.c (.v .str y)=>j9 op x y k
 | .c (.v .bool x),.c (.v .bool y)=>
  match T.get t with
  |some ti=>match ti.desc with
   | .bool=>match op with
    | .eql=>k (.v .bool (x==y))
    | .neq=>k (.v .bool (!(x==y)))
    |_=>none
   |_=>none
  |none=>none
 | .agg l,.agg m=>
  match op,(T.fields t).bind fun fs=>L8 T 0 fs l m with
  | .eql,some r=>k (.v .bool r)
  | .neq,some r=>k (.v .bool (!r))
  |_,_=>none
 |_,_=>none
def unX(op:UnOp)(a:XV)(k:AV->Option Y):Option Y:=
 match op,a with
 | .not,.c (.v .bool x)=>k (.v .bool (!x))
 | .neg,.c (.v (.int j) x)=>k (.v (.int j) (j.wrap (0-x)))
 |_,_=>none
def AA_(d b:Nat)(p:List Xw)(s:Xw):((t:Ty)×t.D)->AV
 |⟨.sl r,x⟩=>if d<=1 then .sl true r x else .ref b (p++[s])
 |⟨t,x⟩=>if t.scalar then .v t x else .undef
def AAe(s:Bool):((t:Ty)×t.D)->AV
 |⟨.sl r,x⟩=> .sl s r x
 |⟨t,x⟩=>if t.scalar then .v t x else .undef
def fS(f:Nat->Option AV):Nat->Nat->Option (List AV)
 |_,0=>some []
 |j,n+1=>(f j).bind fun x=>(fS f (j+1) n).map fun l=>x::l
def Js(bx:List Bx):AV->Nat->Option AV
 | .I0 b j,i=>
  match bx[b]? with
  |some (.mem cs)=>cs[j+i]?
  |_=>none
 | .Ju b p r sz j,i=>
  match bx[b]? with
  |some (.sl d q rows)=>if p.length<d then(HZ q rows p).bind fun s=>if sz=s.1.n then(Ba s.1 (j+i) (rowAt s.1 s.2 r)).map (AA_ (d-p.length) b p ⟨r,sz,j+i⟩)else none else none
  |_=>none
 | .QX s r x j,i=>(Ba r (j+i) x).map (AAe s)
 |_,_=>none
def oW(T:KS)(t:Nat)(σ:St)(a:XV):Option XV:=
 match a,T.get t with
 | .c a,some ti=>if ti.size=0 then none else if ti.desc.agg then(fS (Js σ.bx a) 0 ti.size).map .agg else(Js σ.bx a 0).map .c
 |_,_=>none
def fX(d:Nat)(t:Ty)(x:AV)(bx:List Bx):Option (t.D×List Bx×Nat):=
 match x with
 | .v u y=>(Rt (β:=Ty.D) u t y).map fun y=>(y,bx,d)
 | .nil=>match t with
  | .sl _=>some ([],bx,d)
  |_=>none
 | .sl true r y=>match t with
  | .sl q=>(Rt (β:=fun r=>List r.D) r q y).map fun y=>(y,bx,1)
  |_=>none
 | .ref b []=>match t with
  | .sl q=>
   match bx[b]? with
   |some (.sl d' r y)=>(Rt (β:=fun r=>List r.D) r q y).map fun y=>(y,bx.set b .dead,min d (d'+1))
   |_=>none
  |_=>none
 | .win b [] off n=>match t with
  | .sl q=>
   match bx[b]? with
   |some (.sl d' r y)=>(Rt (β:=fun r=>List r.D) r q ((y.drop off).take n)).map fun y=>(y,bx.set b .dead,min d (d'+1))
   |_=>none
  |_=>none
 |_=>none
def cellsIn(d:Nat):(r:Ty)->List AV->List Bx->Option (r.D×List Bx×Nat)
 | .unit,[],bx=>some ((),bx,d)
 | .cons c r,x::l,bx=>(fX d c x bx).bind fun a=>(cellsIn a.2.2 r l a.2.1).map fun b=>((a.1,b.1),b.2)
 |_,_,_=>none
def AEo(d:Nat)(r:Ty)(x:XV)(bx:List Bx):Option (r.D×List Bx×Nat):=
 match x with
 | .agg l=>cellsIn d r l bx
 | .c x=>fX d r x bx
 |_=>none
def KO(b:Nat):AV->AV
 | .ref b' (s::p)=>if b' =b then .undef else .ref b' (s::p)
 | .win b' (s::p) i n=>if b' =b then .undef else .win b' (s::p) i n
 | .Ju b' (s::p) i sz j=>if b' =b then .undef else .Ju b' (s::p) i sz j
 |x=>x
def vu(b:Nat):XV->XV
 | .c x=> .c (KO b x)
 | .agg l=> .agg (l.map (KO b))
 | .NW l=> .NW (l.map fun| .inl x=> .inl (KO b x)| .inr q=> .inr (q.map (KO b)))
def ABX(b:Nat):Bx->Bx
 | .mem cs=> .mem (cs.map (KO b))
 |x=>x
def St.ABx(b:Nat)(σ:St):St:={ tm:=σ.tm.map (vu b),bx:=σ.bx.map (ABX b) }
def Yx(cs:List AV):Nat->List AV->Option (List AV)
 |_,[]=>some cs
 |j,x::l=>if j<cs.length then Yx (cs.set j x) (j+1) l else none
def qI(d:Nat)(r:Ty)(old:r.D)(j:Nat)(x:XV)(bx:List Bx):Option (r.D×List Bx×Nat):=
 match x with
 | .agg l=>if j=0 then cellsIn d r l bx else none
 | .c x=>
  match Ba r j old with
  |some ⟨t,_⟩=>(fX d t x bx).bind fun a=>(EK r j old t a.1).map fun row=>(row,a.2)
  |none=>none
 |_=>none
def XV.plain:XV->Bool
 | .c (.v _ _)=>true
 |_=>false
def je(σ:St)(a:XV)(x:XV):Option St:=
 match a with
 | .c (.I0 b j)=>
  match σ.bx[b]? with
  |some (.mem cs)=>(Yx cs j x.cells).map fun cs=>{ σ with bx:=σ.bx.set b (.mem cs) }
  |_=>none
 | .c (.Ju b p i sz j)=>
  match σ.bx[b]? with
  |some (.sl d r rows)=>if p.length<d then
   (HZ r rows p).bind fun s=>if sz=s.1.n then(qI (d-p.length) s.1 (rowAt s.1 s.2 i) j x (σ.bx.set b .dead)).bind fun w=>
    (qP r rows p s.1 (s.2.set i w.1)).map fun rows=>
     let σ':St:={ σ with bx:=w.2.1.set b (.sl (w.2.2+p.length) r rows) }
     if x.plain then σ' else σ'.ABx b
    else none
   else none
  |_=>none
 |_=>none
def bW(σ:St)(a x:XV):Option (St×XV):=
 match a,x with
 | .c (.Ju b _ _ _ _),.c (.win b' (s::p') off n)=>
  if b' =b then
   match σ.bx[b]? with
   |some (.sl d r rows)=>(HZ r rows (s::p')).map fun q=>({ σ with bx:=σ.bx.set b (.sl (min d (p'.length+1)) r rows) },.c (.sl true q.1 ((q.2.drop off).take n)))
   |_=>none
  else none
 |_,_=>some (σ,x)
def MS(σ:St)(a x:XV):Option St:=(bW σ a x).bind fun q=>je q.1 a q.2
def pt(bx:List Bx)(x:AV):Option ((r:Ty)×(List r.D×List Bx×Nat)):=
 match x with
 | .v .str s=>some ⟨.int .u8,s.map (fun c=>(c.toNat:Int)),bx,9⟩
 | .sl s r rows=>if r.flat then some ⟨r,rows,bx,9⟩else if s then some ⟨r,rows,bx,1⟩else none
 | .ref b []=>
  match bx[b]? with
  |some (.sl d r rows)=>if r.flat then some ⟨r,rows,bx,9⟩else some ⟨r,rows,bx.set b .dead,d⟩
  |_=>none
 | .ref b p=>
  match bx[b]? with
  |some (.sl _ r rows)=>(HZ r rows p).bind fun q=>if q.1.flat then some ⟨q.1,q.2,bx,9⟩else none
  |_=>none
 | .win b p off n=>
  match bx[b]? with
  |some (.sl _ r rows)=>(HZ r rows p).bind fun q=>if q.1.flat then some ⟨q.1,(q.2.drop off).take n,bx,9⟩else none
  |_=>none
 |_=>none
def p_(bx:List Bx)(x:AV):Option ((r:Ty)×(List r.D×List Bx×Nat)):=
 match x with
 | .ref b []=>
  match bx[b]? with
  |some (.sl d r rows)=>some ⟨r,rows,bx.set b .dead,d⟩
  |_=>none
 | .win b [] off n=>
  match bx[b]? with
  |some (.sl d r rows)=>some ⟨r,(rows.drop off).take n,bx.set b .dead,d⟩
  |_=>none
 |_=>none
def KS.elem(T:KS)(t:Nat):Option TI:=
 match(T.get t).map TI.desc with
 |some (.sl e)=>T.get e
 |_=>none
def KS.OW(T:KS)(t:Nat)(r:Ty):Bool:=
 match T.elem t with
 |some ti=>decide (ti.size=r.n)&&decide (ti.bytes<=512)&&decide (ti.row=some r)
 |none=>false
def KS.isStr(T:KS)(t:Nat):Bool:=
 match(T.get t).map TI.desc with
 |some .str=>true
 |_=>false
def KS.AKO(T:KS)(t:Nat):Bool:=
 match(T.get t).map TI.desc with
 |some (.sl _)=>true
 |_=>false
def gU(T:KS)(ts:Array TypeId)(σ:St)(a x:XV)(k:K Y):Option Y:=
 match ts[0]?,ts[1]? with
 |some t,some u=>
  if T.AKO u||T.isStr u then
   match a,x with
   | .c .nil,.c y=>
    (pt σ.bx y).bind fun s=>if T.OW t s.1 then
     if s.2.1.length<=C_ then k (.c (.ref s.2.2.1.length [])) { σ with bx:=s.2.2.1++[.sl s.2.2.2 s.1 s.2.1] }else none
     else none
   | .c a,.c y=>
    (p_ σ.bx a).bind fun d=>if T.OW t d.1 then(pt d.2.2.1 y).bind fun s=>
     (Rt (β:=fun r=>List r.D) s.1 d.1 s.2.1).bind fun rows=>
      if d.2.1.length+rows.length<=C_ then
       k (.c (.ref s.2.2.1.length [])) { σ with bx:=s.2.2.1++[.sl (min d.2.2.2 s.2.2.2) d.1 (d.2.1++rows)] }
      else none
     else none
   |_,_=>none
  else none
 |_,_=>none
def nN(T:KS)(ts:Array TypeId)(σ:St)(x:XV)(k:K Y):Option Y:=
 match ts[0]?,x with
 |some t,.c (.win b [] off n)=>
  match σ.bx[b]? with
  |some (.sl d r rows)=>if T.OW t r&&(r.flat&&decide (0<r.n))then k (.c .undef) { σ with bx:=σ.bx.set b (.sl d r ((rows.take off++List.replicate n r.z)++rows.drop (off+n))) }else none
  |_=>none
 |_,_=>none
def eu:XV->Option Int
 | .c (.v (.int _) n)=>some n
 |_=>none
def PW(len:Nat)(lo hi:Option XV)(k:Nat->Nat->Option Y):Option Y:=
 let h:Option Int:=match hi with
  |none=>some (len:Int)
  |some x=>eu x
 let l:Option Int:=match lo with
  |none=>some 0
  |some x=>eu x
 match l,h with
 |some l,some h=>if 0<=l/\l<=h/\h<=(len:Int)then k l.toNat h.toNat else none
 |_,_=>none
def mM(T:KS)(t:Nat)(σ:St)(x:XV)(lo hi:Option XV)(k:K Y):Option Y:=
 match x with
 | .c (.v .str s)=>if T.isStr t then PW s.length lo hi fun l h=>k (.c (.v .str ((s.drop l).take (h-l)))) σ else none
 | .c (.sl s r rows)=>if T.OW t r then PW rows.length lo hi fun l h=>k (.c (.sl s r ((rows.drop l).take (h-l)))) σ else none
 | .c (.ref b p)=>
  match OU σ.bx (.ref b p)with
  |some q=>if T.OW t q.1 then PW q.2.length lo hi fun l h=>k (.c (.win b p l (h-l))) σ else none
  |none=>none
 |_=>none
def mA(σ:St)(T:KS)(t:Nat)(x i:XV)(k:K Y):Option Y:=
 match x,eu i with
 | .c (.sl s r rows),some i=>if T.OW t r then(if 0<=i/\i<(rows.length:Int)then k (.c (.QX s r (rowAt r rows i.toNat) 0)) σ else none)else none
 | .c (.ref b p),some i=>
  match OU σ.bx (.ref b p)with
  |some q=>if T.OW t q.1 then(if 0<=i/\i<(q.2.length:Int)then k (.c (.Ju b p i.toNat q.1.n 0)) σ else none)else none
  |none=>none
 | .c (.win b p off n),some i=>
  match OU σ.bx (.ref b p)with
  |some q=>if T.OW t q.1 then(if 0<=i/\i<(n:Int)then k (.c (.Ju b p (off+i.toNat) q.1.n 0)) σ else none)else none
  |none=>none
 |_,_=>none
def wJ(T:KS)(t:Nat)(x:XV)(f:Nat):Option XV:=
 match T.get t with
 |some ⟨_,_,.st fs,_⟩=>
  match fs[f]? with
  |some (o,_)=>match x with
   | .c (.I0 b j)=>some (.c (.I0 b (j+o)))
   | .c (.Ju b p i sz j)=>some (.c (.Ju b p i sz (j+o)))
   | .c (.QX s r y j)=>some (.c (.QX s r y (j+o)))
   |_=>none
  |none=>none
 |_=>none
def AFP(T:KS)(t:Nat)(x:XV)(f:Nat):Option XV:=
 match T.get t,x with
 |some ⟨_,_,.st fs,_⟩,.agg l=>
  match fs[f]? with
  |some (o,u)=>
   match T.get u with
   |some ti=>if ti.desc.agg then some (.agg ((l.drop o).take ti.size))else(l[o]?).map .c
   |none=>none
  |none=>none
 |_,_=>none
def uO(T:KS)(src dst:Nat)(σ:St)(x:XV)(k:K Y):Option Y:=
 match(T.get src).map TI.desc,(T.get dst).map TI.desc,x with
 |some (.int _),some (.int κ),.c (.v (.int _) n)=>k (.c (.v (.int κ) (κ.wrap n))) σ
 |some .str,some .str,.c (.v .str s)=>k (.c (.v .str s)) σ
 |some .str,some (.sl e),.c (.v .str s)=>
  match(T.get e).map TI.desc with
  |some (.int .u8)=>if s.length<=C_ then k (.c (.ref σ.bx.length [])) (σ.new (.sl 9 (.int .u8) (s.map fun c=>(c.toNat:Int))))else none
  |_=>none
 |some (.sl e),some .str,.c x=>
  match(T.get e).map TI.desc,Nk σ.bx (.sl (.int .u8)) x with
  |some (.int .u8),some l=>k (.c (.v .str (l.map fun n:Int=>UInt8.ofNat n.toNat))) σ
  |_,_=>none
 |_,_,_=>none
def uH(T:KS)(t:Nat)(σ:St)(l c:XV)(k:K Y):Option Y:=
 match(T.get t).map TI.desc,eu l,eu c with
 |some (.sl e),some n,some m=>
  match KS.j6 T e with
  |some r=>if T.OW t r then(if 0<=n/\n<=m/\m<=(C_:Int)then k (.c (.ref σ.bx.length [])) (σ.new (.sl 9 r (List.replicate n.toNat r.z)))else none)else none
  |none=>none
 |_,_,_=>none
def jc(T:KS)(fs:List AD9):List AV->List (Nat×XV)->Option (List AV)
 |cs,[]=>some cs
 |cs,(i,x)::l=>
  match fs[i]? with
  |some (o,u)=>
   match T.get u with
   |some ti=>if x.cells.length=ti.size/\ti.size≠0/\x.cells.all AV.known=true then(Yx cs o x.cells).bind fun cs=>jc T fs cs l else none
   |none=>none
  |none=>none
def Zm(r:Ty):Nat->Nat->List (Nat×XV)->List Bx->Nat->Option (List r.D×List Bx×Nat)
 |_,0,[],bx,d=>some ([],bx,d)
 |i,n+1,(j,x)::l,bx,d=>
  if i=j then(AEo d r x bx).bind fun a=>(Zm r (i+1) n l a.2.1 a.2.2).map fun b=>(a.1::b.1,b.2)else none
 |i,n+1,[],bx,d=>(Zm r (i+1) n [] bx d).map fun b=>(r.z::b.1,b.2)
 |_,0,_::_,_,_=>none
def SO(T:KS)(t n:Nat)(parts:List (Nat×XV))(σ:St)(k:K Y):Option Y:=
 match(T.get t).map TI.desc with
 |some (.sl e)=>
  match KS.j6 T e with
  |some r=>if T.OW t r&&decide (n<=1024)&&decide (r.n<=1024)then(Zm r 0 n parts σ.bx 9).bind fun a=>k (.c (.ref a.2.1.length [])) { σ with bx:=a.2.1++[.sl a.2.2 r a.1] }else none
  |none=>none
 |_=>none
def Xu(T:KS)(t:Nat)(σ:St)(x i:XV)(k:K Y):Option Y:=
 match x,eu i with
 | .c (.v .str s),some i=>if T.isStr t then if 0<=i/\i<(s.length:Int)then k (.c (.v (.int .u8) ((s.getD i.toNat 0).toNat:Int))) σ else none else none
 |_,_=>none
def sZ(x:XV)(i:Nat):Option XV:=
 match x with
 | .NW l=>match l[i]? with
  |some (.inl a)=>some (.c a)
  |some (.inr q)=>some (.agg q)
  |none=>none
 |_=>none
def Gx(m:Qi):AV->AV
 | .ref b (s::p)=>if m.contains (some b)then .undef else .ref b (s::p)
 | .win b (s::p) i n=>if m.contains (some b)then .undef else .win b (s::p) i n
 | .Ju b (s::p) i sz j=>if m.contains (some b)then .undef else .Ju b (s::p) i sz j
 |x=>x
def V_(m:Qi):XV->XV
 | .c x=> .c (Gx m x)
 | .agg l=> .agg (l.map (Gx m))
 | .NW l=> .NW (l.map fun| .inl x=> .inl (Gx m x)| .inr q=> .inr (q.map (Gx m)))
def AF6(m:Qi):Bx->Bx
 | .mem cs=> .mem (cs.map (Gx m))
 |x=>x
def St.aw(m:Qi)(σ:St):St:=
 match m with
 |[]=>σ
 |_::_=>{ tm:=σ.tm.map (V_ m),bx:=σ.bx.map (AF6 m) }
def ny(c:Qn)(args:List XV)(σ:St)(k:K Y):Option Y:=
 if args.length=c.ins.EH.length then
  match c.ins.fit σ.bx.length c.ins.m0 args (c.ins.opens σ.bx)with
  |some (v,m)=>(c.g v).bind fun u=>
   let Jt:=Z_ m (c.ins.opens σ.bx).length
   let σ1:=({ σ with bx:=c.ins.opens σ.bx }:St).aw m
   k (gF c.outs.EH u.1 Jt) { σ1 with bx:=cH Jt 0 c.outs.HO u.2 (DB σ1.bx m) }
  |none=>none
 else none
def dD(σ:St)(x:XV)(k:K Y):Option Y:=
 match x with
 | .c (.win b [] off n)=>
  (p_ σ.bx (.win b [] off n)).bind fun s=>k (.c (.ref s.2.2.1.length [])) { σ with bx:=s.2.2.1++[.sl s.2.2.2 s.1 s.2.1] }
 |x=>k x σ
def xc(l:List XV):Option ABU:=
 match l with
 |[]=>some []
 | .c (.I0 b 0)::l=>(xc l).map fun r=>b::r
 |_=>none
def vW(big:Bool)(a b:XV)(k:AV->Option Y):Option Y:=
 match a,b with
 | .c (.v (.int j) x),.c (.v (.int j') y)=>
  if j=j' then(if big then k (.v (.int j) (if y>x then y else x))else k (.v (.int j) (if y<x then y else x)))else none
 |_,_=>none
def YC(T:KS)(Γ:Nat->Option Qn)(o:Oper)(σ:St)(k:K Y):Option Y:=
 match o.op with
 | .move x=>k (σ.ev x) σ
 | .assign x=>dD σ (σ.ev x) k
 | .pick c a b=>match σ.ev c with
  | .c (.v .bool x)=>AEa x (σ.ev a) (σ.ev b) σ k
  |_=>none
 | .alloc t=>match KS.j6 T t with
  |some r=>k (.c (.I0 σ.bx.length 0)) (σ.new (.mem (cY r)))
  |none=>none
 | .box t x=>match T.get t with
  |some ti=>if(σ.ev x).cells.length=ti.size/\ti.size≠0/\(σ.ev x).cells.all AV.known=true then k (.c (.I0 σ.bx.length 0)) (σ.new (.mem (σ.ev x).cells))else none
  |none=>none
 | .build t parts=>match T.get t,KS.j6 T t with
  |some ⟨_,_,.st fs,_⟩,some r=>match jc T fs (cY r) (parts.toList.map fun q=>(q.1,σ.ev q.2))with
   |some cs=>k (.agg cs) σ
   |none=>none
  |_,_=>none
 | .buildSlice t n parts=>SO T t n (parts.toList.map fun q=>(q.1,σ.ev q.2)) σ k
 | .load t a=>match oW T t σ (σ.ev a)with
  |some x=>k x σ
  |none=>none
 | .store t a x=>match T.get t with
  |some ti=>if(σ.ev x).cells.length=ti.size/\ti.size≠0/\(σ.ev x).cells.all AV.known=true then(match MS σ (σ.ev a) (σ.ev x)with
   |some σ=>k (.c .undef) σ
   |none=>none)else none
  |none=>none
 | .nilCheck x=>match σ.ev x with
  | .c (.I0 b j)=>k (.c (.I0 b j)) σ
  | .c (.Ju b p i sz j)=>k (.c (.Ju b p i sz j)) σ
  | .c (.QX s r y j)=>k (.c (.QX s r y j)) σ
  | .c (.fn f LO)=>k (.c (.fn f LO)) σ
  |_=>none
 | .binOp op t x y _=>xt T t op (σ.ev x) (σ.ev y) fun a=>k (.c a) σ
 | .unOp op _ x=>unX op (σ.ev x) fun a=>k (.c a) σ
 | .convert s d x=>uO T s d σ (σ.ev x) k
 | .makeFunc (.func f) first LO=>if first.size=0 then(match xc (LO.toList.map σ.ev)with
  |some bs=>k (.c (.fn f bs)) σ
  |none=>none)else none
 | .makeSlice t l c=>uH T t σ (σ.ev l) (σ.ev c) k
 | .slice t x lo hi none=>mM T t σ (σ.ev x) (lo.map σ.ev) (hi.map σ.ev) k
 | .fieldAddr t x f=>match wJ T t (σ.ev x) f with
  |some y=>k y σ
  |none=>none
 | .field t x f=>match AFP T t (σ.ev x) f with
  |some y=>k y σ
  |none=>none
 | .indexAddr t x i=>mA σ T t (σ.ev x) (σ.ev i) k
 | .index t x i=>Xu T t σ (σ.ev x) (σ.ev i) k
 | .extract x i=>match sZ (σ.ev x) i with
  |some y=>k y σ
  |none=>none
 | .call { callee:= .value f,args,.. }=>match σ.ev f with
  | .c (.fn f LO)=>match Γ f with
   |some c=>ny c (args.toList.map σ.ev++LO.map fun b=> .c (.I0 b 0)) σ k
   |none=>none
  | .c (.sf f rows)=>match Γ f with
   |some c=>ny c (args.toList.map σ.ev++rows.map fun q=> .c (.QX false q.1 q.2 0)) σ k
   |none=>none
  |_=>none
 | .call { callee:= .builtin .len,args,argTypes }=>match args.toList.map σ.ev,argTypes[0]? with
  |[.c (.v .str s)],some t=>if T.isStr t then k (.c (.v (.int .i64) (s.length:Int))) σ else none
  |[.c x],some t=>if T.AKO t then(match lenOf σ.bx x with
   |some n=>k (.c (.v (.int .i64) (n:Int))) σ
   |none=>none)else none
  |_,_=>none
 | .call { callee:= .builtin .append,args,argTypes }=>match args.toList.map σ.ev with
  |[a,x]=>gU T argTypes σ a x k
  |_=>none
 | .call { callee:= .builtin .clear,args,argTypes }=>match args.toList.map σ.ev with
  |[x]=>nN T argTypes σ x k
  |_=>none
 | .call { callee:= .builtin .max,args,.. }=>match args.toList.map σ.ev with
  |[a,x]=>vW true a x fun a=>k (.c a) σ
  |_=>none
 | .call { callee:= .builtin .min,args,.. }=>match args.toList.map σ.ev with
  |[a,x]=>vW false a x fun a=>k (.c a) σ
  |_=>none
 |_=>none
end ops
end Go.Fw
end
section
namespace Go.Fw
section
variable{Y:Type}
structure bF where
 T:KS
 Γ:Nat->Option Qn
 hint:Nat->List Nat
def ib(hint:ABU):XV->Bool
 | .c (.I0 b _)=>hint.contains b
 | .c (.Ju b _ _ _ _)=>hint.contains b
 | .c (.QX _ _ _ _)=>true
 |_=>false
def k_(hint:ABU)(σ:St):Op->Bool
 | .assign x=>match σ.ev x with
  | .c (.win _ [] _ _)=>false
  |_=>true
 | .move _| .pick .. | .nilCheck _| .binOp .. | .unOp .. | .fieldAddr .. | .field .. | .indexAddr .. | .index .. | .extract .. | .build .. =>true
 | .slice _ _ _ _ none=>true
 | .load _ a=>ib hint (σ.ev a)
 | .call { callee:= .builtin .len,.. }=>true
 | .call { callee:= .builtin .max,.. }=>true
 | .call { callee:= .builtin .min,.. }=>true
 |_=>false
def Ky(Γ:Nat->Option Qn)(σ:St):Op->List Nat
 | .store _ a _=>match σ.ev a with
  | .c (.I0 b _)=>[b]
  | .c (.Ju b _ _ _ _)=>[b]
  |_=>[]
 | .call { callee:= .value f,args,.. }=>match σ.ev f with
  | .c (.fn f LO)=>match Γ f with
   |some c=>match c.ins.fit σ.bx.length c.ins.m0 (args.toList.map σ.ev++LO.map fun b=> .c (.I0 b 0)) (c.ins.opens σ.bx)with
    |some (_,m)=>m.filterMap id
    |none=>[]
   |none=>[]
  | .c (.sf f rows)=>match Γ f with
   |some c=>match c.ins.fit σ.bx.length c.ins.m0 (args.toList.map σ.ev++rows.map fun q=> .c (.QX false q.1 q.2 0)) (c.ins.opens σ.bx)with
    |some (_,m)=>m.filterMap id
    |none=>[]
   |none=>[]
  |_=>[]
 | .call { callee:= .builtin .clear,args,.. }=>match args.toList.map σ.ev with
  |[.c (.win b _ _ _)]=>[b]
  |_=>[]
 |_=>[]
def tt:XV:= .c (.v .bool true)
def ff:XV:= .c (.v .bool false)
def AB3(C:bF)(ops:Array Oper)(o:Oper)(kn:St->Option Y)(σ:St):Option Y:=
 match o.guard with
 |none=>YC C.T C.Γ o σ fun x σ' =>kn (σ'.put o.dst x)
 |some (j,want)=>
  match(ops[j]?).bind (·.dst)with
  |some t=>
   match σ.tm[t]? with
   |some (.c (.v .bool b))=>
    let yes (σ:St):Option Y:=YC C.T C.Γ o σ fun x σ' =>kn (σ'.put o.dst x)
    let no (σ:St):Option Y:=kn (σ.put o.dst (.NW []))
    cond b ((if want then yes else no) (σ.put (some t) tt)) ((if want then no else yes) (σ.put (some t) ff))
   |some (.NW [])=>kn (σ.put o.dst (.NW []))
   |_=>none
  |none=>none
def v_(C:bF)(all:Array Oper):List Oper->(St->Option Y)->St->Option Y
 |[],kn,σ=>kn σ
 |o::rest,kn,σ=>AB3 C all o (fun σ' =>v_ C all rest kn σ') σ
def ABy(C:bF)(ops:Array Oper)(i:Nat)(kn:St->Option Y)(σ:St):Option Y:=
 match ops[i]? with
 |none=>none
 |some o=>AB3 C ops o kn σ
def mB(bx:List Bx)(b:Nat):Bool:=
 match bx[b]? with
 |some .dead=>true
 |some _=>false
 |none=>true
def idle(ops:Array Oper)(σ:St)(o:Oper):Bool:=
 match o.guard with
 |none=>false
 |some (j,want)=>
  match(ops[j]?).bind (·.dst)with
  |some t=>
   match σ.tm[t]? with
   |some (.c (.v .bool b))=>b !=want
   |some (.NW [])=>true
   |_=>false
  |none=>false
def qU(hint:ABU)(ops:Array Oper)(listed:Array Bool)(σ:St)(i:Nat):Bool:=
 match ops[i]? with
 |some o=>(k_ hint σ o.op||idle ops σ o)&&Region.free .any ops listed i
 |none=>false
def v8(f:Nat->List Bool->Option Y):List Nat->List Bool->Option Y
 |[],_=>none
 |[i],ω=>f i ω
 |i::_::_,[]=>f i []
 |i::_::_,true::ω=>f i ω
 |_::j::r,false::ω=>v8 f (j::r) ω
def VN(C:bF)(hint:ABU)(ops:Array Oper)(kn:List Bool->St->Option Y):Nat->Array Bool->List Bool->St->Option Y
 |fuel,listed,ω,σ=>
  if hint.all (fun b=> !mB σ.bx b)then
   match Region.ready .any ops listed with
   |[]=>kn ω σ
   |rs=>
    match fuel with
    |0=>none
    |fuel+1=>
     match rs.find? (qU hint ops listed σ)with
     |some i=>ABy C ops i (fun σ' =>VN C hint ops kn fuel (listed.setIfInBounds i true) ω σ') σ
     |none=>v8 (fun i ω=>
      match ops[i]? with
      |some o=>if(Ky C.Γ σ o.op).all (fun b=> !hint.contains b)then ABy C ops i (fun σ' =>VN C hint ops kn fuel (listed.setIfInBounds i true) ω σ') σ else none
      |none=>none) rs ω
  else none
def first:Code->Nat
 | .region id _ _=>id
 | .seq a _=>first a
 | .cond _ a _=>first a
 | .block _ a=>first a
 | .loop a=>first a
 | .scope a=>first a
 |_=>0
abbrev KN(Y:Type):=List Bool->St->Option Y
def run(C:bF)(J:Nat->St->Option Y):Code->KN Y->(Nat->KN Y)->KN Y->KN Y
 | .skip,kn,_,_,ω,σ=>kn ω σ
 | .region id ops draw,kn,_,_,ω,σ=>
  if draw then(if Region.noSelect ops then VN C (C.hint id) ops kn ops.size (Array.replicate ops.size false) ω σ else none)else v_ C ops ops.toList (kn ω) σ
 | .seq a b,kn,kx,kr,ω,σ=>run C J a (fun ω σ=>run C J b kn kx kr ω σ) kx kr ω σ
 | .cond (.tmp t) a b,kn,kx,kr,ω,σ=>
  match σ.tm[t]? with
  |some (.c (.v .bool x))=>cond x (run C J a kn kx kr ω (σ.put (some t) tt)) (run C J b kn kx kr ω (σ.put (some t) ff))
  |_=>none
 | .block id body,kn,kx,kr,ω,σ=>run C J body kn (fun j ω σ=>if j=id then kn ω σ else kx j ω σ) kr ω σ
 | .loop body,_,_,_,_,σ=>J (first body) σ
 | .exit id,_,kx,_,ω,σ=>kx id ω σ
 | .ret,_,_,kr,ω,σ=>kr ω σ
 |_,_,_,_,_,_=>none
def find(C:bF)(J:Nat->St->Option Y)(ℓ :Nat):Code->KN Y->(Nat->KN Y)->KN Y->Option (KN Y)
 | .seq a b,kn,kx,kr=>
  match find C J ℓ a (fun ω σ=>run C J b kn kx kr ω σ) kx kr with
  |some f=>some f
  |none=>find C J ℓ b kn kx kr
 | .cond _ a b,kn,kx,kr=>
  match find C J ℓ a kn kx kr with
  |some f=>some f
  |none=>find C J ℓ b kn kx kr
 | .block id body,kn,kx,kr=>find C J ℓ body kn (fun j ω σ=>if j=id then kn ω σ else kx j ω σ) kr
 | .loop body,_,kx,kr=>
  if first body= ℓ then some (fun ω σ=>run C J body (fun _ σ=>J ℓ σ) kx kr ω σ)else find C J ℓ body (fun _ σ=>J (first body) σ) kx kr
 |_,_,_,_=>none
def AF1(T:KS)(σ:St):ResultVar->Option XV
 | .tmp t=>σ.tm[t]?
 | .cell a t=>match σ.tm[a]? with
  |some x=>oW T t σ x
  |none=>none
def yd:List XV->Option (List (AV ⊕ List AV))
 |[]=>some []
 | .c x::l=>(yd l).map fun r=> .inl x::r
 | .agg q::l=>(yd l).map fun r=> .inr q::r
 |_=>none
def kz(T:KS)(σ:St)(rs:List ResultVar):Option XV:=
 match rs.mapM (AF1 T σ)with
 |some [x]=>some x
 |some l=>(yd l).map .NW
 |none=>none
def Ua:Nat->Nat->List BP->Qi
 |_,_,[]=>[]
 |i,n,p::l=>(match p with| .gone=>none|_=>if i<n then some i else none)::Ua (i+1) n l
def AV.q9(b:Nat)(r:Ty)(rows:List r.D):AV->AV
 | .ref k []=>if k=b then .sl true r rows else .ref k []
 |x=>x
def XV.q9(b:Nat)(r:Ty)(rows:List r.D):XV->XV
 | .c x=> .c (x.q9 b r rows)
 |x=>x
def Bx.q9(b:Nat)(r:Ty)(rows:List r.D):Bx->Bx
 | .mem cs=> .mem (cs.map (AV.q9 b r rows))
 |x=>x
def St.q9(b:Nat)(σ:St):St:=
 match σ.bx[b]? with
 |some (.sl _ r rows)=>{ tm:=σ.tm.map (XV.q9 b r rows),bx:=(σ.bx.set b .dead).map (Bx.q9 b r rows) }
 |_=>σ
def Hf:List AP->List AV->St->St
 | .sl true _::l,.ref b []::xs,σ=>Hf l xs (σ.q9 b)
 |_::l,_::xs,σ=>Hf l xs σ
 |_,_,σ=>σ
def dE:List (AP ⊕ List AP)->List (AV ⊕ List AV)->St->St
 | .inl p::l,.inl x::xs,σ=>dE l xs (Hf [p] [x] σ)
 | .inr p::l,.inr x::xs,σ=>dE l xs (Hf p x σ)
 |_::l,_::xs,σ=>dE l xs σ
 |_,_,σ=>σ
def AZE:XP->XV->St->St
 | .c p,.c x,σ=>Hf [p] [x] σ
 | .agg l,.agg xs,σ=>Hf l xs σ
 | .NW l,.NW xs,σ=>dE l xs σ
 |_,_,σ=>σ
def mi(l:List (Nat×XP))(x:XV)(σ:St):St:=
 match l with
 |(_,p)::_=>AZE p x σ
 |[]=>σ
def tO(T:KS)(c:Qn)(rs:List ResultVar)(σ:St):Option c.outs.V:=
 (kz T σ rs).bind fun x=>
  let σ:=mi c.outs.EH x σ
  (kz T σ rs).bind fun x=>(c.outs.fit σ.bx.length (Ua 0 c.ins.HO.length c.outs.HO) [x] (c.outs.opens σ.bx)).map fun q=>q.1
def C9(C:bF)(c:Qn)(fn:Func)(J:Nat->St->Option c.outs.V)(ω:List Bool)(v:c.ins.V):Option c.outs.V:=
 match fn.body with
 |some code=>run C J code (fun _=>tO C.T c fn.results.toList) (fun _ _ _=>none) (fun _=>tO C.T c fn.results.toList) ω (c.ins.st fn.ntmps v)
 |none=>none
def HW(C:bF)(c:Qn)(fn:Func)(J:Nat->St->Option c.outs.V)(ℓ :Nat)(ω:List Bool)(σ:St):Option c.outs.V:=
 match fn.body with
 |some code=>
  match find C J ℓ code (fun _=>tO C.T c fn.results.toList) (fun _ _ _=>none) (fun _=>tO C.T c fn.results.toList)with
  |some f=>f ω σ
  |none=>none
 |none=>none
def Qv(bs:List BP):List (Nat×XP)->St->St
 |[],σ=>σ
 |(i,.c (.sl true r))::l,σ=>
  match σ.tm[i]? with
  |some (.c x)=>Qv bs l (Hf [.sl true r] [x] σ)
  |_=>Qv bs l σ
 |(i,.c (.ptr k _))::l,σ=>
  match bs[k]?,σ.tm[i]? with
  |some (.mem ps),some (.c (.I0 b _))=>
   match σ.bx[b]? with
   |some (.mem cs)=>Qv bs l (Hf ps cs σ)
   |_=>Qv bs l σ
  |_,_=>Qv bs l σ
 |_::l,σ=>Qv bs l σ
def AV.uu:AV->Bool
 | .ref _ _| .win _ _ _ _| .sl _ _ _| .nil=>true
 |_=>false
def St.forget(b j:Nat)(σ:St):St:=
 match σ.bx[b]? with
 |some (.mem cs)=>
  match cs[j]? with
  |some x=>if x.uu then{ σ with bx:=σ.bx.set b (.mem (cs.set j (.ref σ.bx.length [])))++[.dead] }else σ
  |none=>σ
 |_=>σ
def Yt(bs:List BP)(b:Nat):Nat->List AP->St->St
 |_,[],σ=>σ
 |j,p::l,σ=>Yt bs b (j+1) l (match p with
  | .ref q=>match bs[q]? with
   |some .gone=>σ.forget b j
   |_=>σ
  |_=>σ)
def eX(bs:List BP):List (Nat×XP)->St->St
 |[],σ=>σ
 |(i,p)::l,σ=>eX bs l (match p with
  | .c (.ptr k _)=>match bs[k]?,σ.tm[i]? with
   |some (.mem ps),some (.c (.I0 b _))=>Yt bs b 0 ps σ
   |_,_=>σ
  |_=>σ)
def jump(nb:Nat)(s:BI)(f:s.V->Option Y)(σ:St):Option Y:=
 if nb<=s.HO.length then
  let σ:=eX s.HO s.EH (Qv s.HO s.EH σ)
  (s.fit σ.bx.length (Ua 0 nb s.HO) σ.tm (s.opens σ.bx)).bind fun q=>f q.1
 else none
end
end Go.Fw
end
section
namespace Go.Fw
def Bj(w:World)(b o:Nat)(cs:List Value):Prop:= ∀j v,cs[j]? =some v->w.cell? ⟨b,o+j,none⟩=some v
def Rd(w:World)(B:Nat->Prop):(t:Ty)->List Value->t.D->Prop
 | .int k,vs,x=>vs=[.int k x]
 | .bool,vs,x=>vs=[.bool x]
 | .str,vs,x=>vs=[.string ⟨x.toArray⟩]
 | .sl r,vs,x=> ∃a cap,vs=[.slice a (List.length x) cap]/\List.length x<=cap/\(List.length x=0\/ ∃b o,a=some ⟨b,o,none⟩/\B b/\
  ∀(i:Nat) (y:r.D),x[i]? =some y-> ∃cs,cs.length=r.n/\Bj w b (o+i*r.n) cs/\Rd w B r cs y)
 | .unit,vs,_=>vs=[]
 | .cons c r,vs,x=> ∃v l,vs=v::l/\Rd w B c [v] x.1/\Rd w B r l x.2
def w_(fr:AD9)(n:Nat):Prop:= ∀i,i<n-> ¬(fr.1<=i/\i<fr.2)
def mk:Ty->Nat
 | .int .u8=>0
 |_=>1
def Ow(w:World)(S:Nat->Prop):(d:Nat)->(t:Ty)->List Value->t.D->List Nat->Prop
 |0,.sl r,vs,x,F=>Rd w S (.sl r) vs x/\F=[]
 |d+1,.sl r,vs,x,F=> ∃a cap,vs=[.slice a (List.length x) cap]/\List.length x<=cap/\
  ((
   cap=0/\F=[])\/ ∃b o arr ty fr Fs,a=some ⟨b,o,none⟩/\w.heap[b]? =some (.cells arr ty fr)/\o+cap*r.n<=arr.size/\w_ fr (arr.size+mk r)/\
   F=b::List.flatten Fs/\Fs.length=List.length x/\
   ∀(i:Nat) (y:r.D) (G:ABU),x[i]? =some y->Fs[i]? =some G-> ∃cs,cs.length=r.n/\Bj w b (o+i*r.n) cs/\Ow w S d r cs y G)
 |d,.cons c r,vs,x,F=> ∃v l F1 F2,vs=v::l/\F=F1++F2/\Ow w S d c [v] x.1 F1/\Ow w S d r l x.2 F2
 |_,.unit,vs,_,F=>vs=[]/\F=[]
 |_,.int k,vs,x,F=>vs=[.int k x]/\F=[]
 |_,.bool,vs,x,F=>vs=[.bool x]/\F=[]
 |_,.str,vs,x,F=>vs=[.string ⟨x.toArray⟩]/\F=[]
theorem nQ{w B}:∀{t:Ty} {vs x},Rd w B t vs x->vs.length=t.n
 | .int _,_,_,h=>by simp only[Rd]at h;subst h;rfl
 | .bool,_,_,h=>by simp only[Rd]at h;subst h;rfl
 | .str,_,_,h=>by simp only[Rd]at h;subst h;rfl
 | .sl _,_,_,h=>by simp only[Rd]at h;obtain⟨_,_,h,_⟩:=h;subst h;rfl
 | .unit,_,_,h=>by simp only[Rd]at h;subst h;rfl
 | .cons _ _,_,_,h=>by
  simp only[Rd]at h;obtain⟨_,_,rfl,_,h⟩:=h;simp[Ty.n,nQ h]
theorem YB{w S}:∀{d} {t:Ty} {vs x F},Ow w S d t vs x F->vs.length=t.n
 |_,.int _,_,_,_,h=>by simp only[Ow]at h;rw[h.1];rfl
 |_,.bool,_,_,_,h=>by simp only[Ow]at h;rw[h.1];rfl
 |_,.str,_,_,_,h=>by simp only[Ow]at h;rw[h.1];rfl
 |0,.sl _,_,_,_,h=>by grind[Ow,nQ]
 |_+1,.sl _,_,_,_,h=>by simp only[Ow]at h;obtain⟨_,_,h,_⟩:=h;subst h;rfl
 |_,.unit,_,_,_,h=>by simp only[Ow]at h;rw[h.1];rfl
 |_,.cons _ _,_,_,_,h=>by
  simp only[Ow]at h;obtain⟨_,_,_,_,rfl,_,_,h⟩:=h;simp[Ty.n,YB h]
theorem Bj.of_block{w w':World}{b o:Nat}{cs:List Value}(h:Bj w b o cs)(hb:w'.heap[b]? =w.heap[b]?):Bj w' b o cs:=
 fun j v hj=>(World.cell?_of_block (a:=⟨b,o+j,none⟩) hb).trans (h j v hj)
theorem GD{w w':World}{B B':Nat->Prop}(hB:∀b,B b->B' b)(hw:∀b,B b->w'.heap[b]? =w.heap[b]?):∀{t:Ty} {vs x},Rd w B t vs x->Rd w' B' t vs x
 | .int _,_,_,h=>by grind[Rd]
 | .bool,_,_,h=>by grind[Rd]
 | .str,_,_,h=>by grind[Rd]
 | .unit,_,_,h=>by grind[Rd]
 | .sl r,_,_,h=>by
  simp only[Rd]at h|-;obtain⟨a,cap,h1,h2,h3⟩:=h;refine⟨a,cap,h1,h2,h3.imp id ?_⟩
  rintro⟨b,o,ha,hb,h⟩
  refine⟨b,o,ha,hB b hb,fun i y hy=> ?_⟩;obtain⟨cs,hl,hc,hr⟩:=h i y hy;exact⟨cs,hl,hc.of_block (hw b hb),GD hB hw hr⟩
 | .cons _ _,_,_,h=>by
  simp only[Rd]at h|-;obtain⟨v,l,h1,h2,h3⟩:=h;exact⟨v,l,h1,GD hB hw h2,GD hB hw h3⟩
theorem En{w w':World}{S S':Nat->Prop}(hS:∀b,S b->S' b)(hw:∀b,S b->w'.heap[b]? =w.heap[b]?):
  ∀{d} {t:Ty} {vs x F},(∀b∈F,w'.heap[b]? =w.heap[b]?)->Ow w S d t vs x F->Ow w' S' d t vs x F
 |_,.int _,_,_,_,_,h=>by grind[Ow]
 |_,.bool,_,_,_,_,h=>by grind[Ow]
 |_,.str,_,_,_,_,h=>by grind[Ow]
 |_,.unit,_,_,_,_,h=>by grind[Ow]
 |0,.sl r,_,_,_,_,h=>by
  grind[Ow,GD]
 |d+1,.sl r,_,x,F,hF,h=>by
  simp only[Ow]at h|-;obtain⟨a,cap,h1,h2,h3⟩:=h;refine⟨a,cap,h1,h2,h3.imp id ?_⟩
  rintro⟨b,o,arr,ty,fr,Fs,ha,hb,h4,h5,h6,h7,h⟩
  subst h6;have hbb:=hF b (by simp);refine⟨b,o,arr,ty,fr,Fs,ha,hbb.trans hb,h4,h5,rfl,h7,fun i y G hy hG=> ?_⟩;obtain⟨cs,hl,hc,hr⟩:=h i y G hy hG;refine⟨cs,hl,hc.of_block hbb,En hS hw (fun c hc=>hF c ?_) hr⟩;grind[List.mem_cons_of_mem,List.mem_flatten,List.mem_of_getElem?]
 |_,.cons _ _,_,_,_,hF,h=>by
  simp only[Ow]at h|-;obtain⟨v,l,F1,F2,h1,h2,h3,h4⟩:=h;subst h2;exact⟨v,l,F1,F2,h1,rfl,En hS hw (fun c hc=>hF c (by simp[hc])) h3,En hS hw (fun c hc=>hF c (by simp[hc])) h4⟩
theorem Ye{w:World}{S:Nat->Prop}:∀{d} {t:Ty} {vs x F},Ow w S d t vs x F->Rd w (fun b=>S b\/b∈F) t vs x
 |_,.int _,_,_,_,h=>by grind[Ow,Rd]
 |_,.bool,_,_,_,h=>by grind[Ow,Rd]
 |_,.str,_,_,_,h=>by grind[Ow,Rd]
 |_,.unit,_,_,_,h=>by grind[Ow,Rd]
 |0,.sl r,_,_,_,h=>by
  simp only[Ow]at h;simp_all
 |d+1,.sl r,_,x,F,h=>by
  simp only[Ow]at h;simp only[Rd];obtain⟨a,cap,h1,h2,h3⟩:=h;refine⟨a,cap,h1,h2,?_⟩;rcases h3 with⟨hc,_⟩|⟨b,o,arr,ty,fr,Fs,ha,hb,h4,h5,h6,h7,h⟩
  ·omega
  ·refine .inr ⟨b,o,ha,.inr (by simp[h6]),fun i y hy=> ?_⟩
   have hi:i<Fs.length:=by
    grind
   obtain⟨cs,hl,hc,hr⟩:=h i y Fs[i] hy (AOM hi);refine⟨cs,hl,hc,GD ?_ (fun _ _=>rfl) (Ye hr)⟩;grind[List.mem_cons_of_mem,List.mem_flatten,List.getElem_mem]
 |_,.cons _ _,_,_,_,h=>by
  simp only[Ow]at h;simp only[Rd];obtain⟨v,l,F1,F2,h1,h2,h3,h4⟩:=h;subst h2;refine⟨v,l,h1,GD ?_ (fun _ _=>rfl) (Ye h3),GD ?_ (fun _ _=>rfl) (Ye h4)⟩
  all_goals grind
theorem Ki{w:World}{S:Nat->Prop}:∀{d d'} {t:Ty} {vs x F},d<=d'->Ow w S d' t vs x F->
  ∃F1 F2,F.Perm (F1++F2)/\Ow w (fun b=>S b\/b∈F2) d t vs x F1
 |_,_,.int _,_,_,_,_,h=>by simp only[Ow]at h|-;simp_all
 |_,_,.bool,_,_,_,_,h=>by simp only[Ow]at h|-;simp_all
 |_,_,.str,_,_,_,_,h=>by simp only[Ow]at h|-;simp_all
 |_,_,.unit,_,_,_,_,h=>by simp only[Ow]at h|-;simp_all
 |0,d',.sl r,_,x,F,_,h=>by
  refine⟨[],F,by simp,?_⟩;simp only[Ow];exact⟨Ye h,trivial⟩
 |d+1,0,.sl r,_,x,F,hd,h=>by omega
 |d+1,d'+1,.sl r,_,x,F,hd,h=>by
  simp only[Ow]at h|-;obtain⟨a,cap,h1,h2,h3⟩:=h;rcases h3 with⟨hc,hF⟩|⟨b,o,arr,ty,fr,Fs,ha,hb,h4,h5,h6,h7,h⟩
  ·simp_all
  ·have key:∀(n:Nat) (Fs:List ABU) (y:List r.D),Fs.length=n->y.length=n->(∀(i:Nat) (z:r.D) (G:ABU),y[i]? =some z->Fs[i]? =some G-> ∃cs,cs.length=r.n/\Bj w b (o+i*r.n) cs/\Ow w S d' r cs z G)->
     ∃(Gs:List ABU) (F2:ABU),Fs.flatten.Perm (Gs.flatten++F2)/\Gs.length=n/\ ∀(i:Nat) (z:r.D) (G:ABU),y[i]? =some z->Gs[i]? =some G-> ∃cs,cs.length=r.n/\Bj w b (o+i*r.n) cs/\Ow w (fun b=>S b\/b∈F2) d r cs z G:=by
    intro n
    induction n with
    |zero=>
     simp_all
    |succ n ih=>
     intro Fs y hF hy hh;obtain⟨Fs',G0,rfl⟩:∃l a,Fs=l++[a]:=⟨Fs.dropLast,Fs.getLast (by grind),(List.dropLast_concat_getLast _).symm⟩;obtain⟨y',z0,rfl⟩:∃l a,y=l++[a]:=⟨y.dropLast,y.getLast (by grind),(List.dropLast_concat_getLast _).symm⟩;simp only[ASB,ART,AS0]at hF hy;obtain⟨Gs,F2,hp,hl,hg⟩:=ih Fs' y' (by omega) (by omega) (fun i z G hz hG=>hh i z G
      (by grind) (by grind))
     obtain⟨cs,Xq,hc,ho⟩:=hh n z0 G0 (by simp_all) (by simp_all);obtain⟨H1,H2,hhp,hho⟩:=Ki (d:=d) (d':=d') (by omega) ho;refine⟨Gs++[H1],F2++H2,?_,by simp[hl],?_⟩
     ·grind
     ·intro i z G hz hG
      by_cases hi:i<n
      ·rw[AR1 (by omega)]at hz hG
       obtain⟨cs,e1,e2,e3⟩:=hg i z G hz hG;exact⟨cs,e1,e2,En (by grind) (fun _ _=>rfl) (fun _ _=>rfl) e3⟩
      ·have:i=n:=by
        grind
       subst this;rw[ASa (by omega)]at hz hG;simp[show i-y'.length=0 by omega,show i-Gs.length=0 by omega]at hz hG;subst hz hG;exact⟨cs,Xq,hc,En (by grind) (fun _ _=>rfl) (fun _ _=>rfl) hho⟩
   obtain⟨Gs,F2,hp,hl,hg⟩:=key _ Fs x h7 rfl h;refine⟨b::Gs.flatten,F2,?_,a,cap,h1,h2,.inr ⟨b,o,arr,ty,fr,Gs,ha,hb,h4,h5,rfl,hl,hg⟩⟩;simp_all
 |d,d',.cons _ _,_,_,_,hd,h=>by
  simp only[Ow]at h|-;obtain⟨v,l,F1,F2,h1,h2,h3,h4⟩:=h;obtain⟨A1,A2,pa,oa⟩:=Ki hd h3;obtain⟨B1,B2,pb,ob⟩:=Ki hd h4;refine⟨A1++B1,A2++B2,?_,v,l,A1,B1,h1,rfl,En (by grind) (fun _ _=>rfl) (fun _ _=>rfl) oa,En (by grind) (fun _ _=>rfl) (fun _ _=>rfl) ob⟩;grind
def RB(w:World):(t:Ty)->List Value->t.D->Nat->Prop
 | .sl r,vs,x,c=> ∃b o len cap,vs=[.slice (some ⟨b,o,none⟩) len cap]/\0<List.length x/\
  (c=b\/ ∃(i:Nat) (y:r.D) (cs:List Value),x[i]? =some y/\cs.length=r.n/\Bj w b (o+i*r.n) cs/\RB w r cs y c)
 | .cons c r,vs,x,d=> ∃v l,vs=v::l/\(RB w c [v] x.1 d\/RB w r l x.2 d)
 |_,_,_,_=>False
theorem Bj.unique{w:World}{b o:Nat}{cs ds:List Value}(h:Bj w b o cs)(k:Bj w b o ds)(hl:cs.length=ds.length):cs=ds:=by
 apply List.ext_getElem hl;intro i h1 h2;have e1:=h i _ (AOM h1);have e2:=k i _ (AOM h2);simp_all
theorem wA{w:World}{B:Nat->Prop}{c:Nat}:∀{t:Ty} {vs x},Rd w B t vs x->RB w t vs x c->B c
 | .int _,_,_,_,h=>by simp[RB]at h
 | .bool,_,_,_,h=>by simp[RB]at h
 | .str,_,_,_,h=>by simp[RB]at h
 | .unit,_,_,_,h=>by simp[RB]at h
 | .sl r,_,x,h,k=>by
  simp only[Rd]at h;simp only[RB]at k;obtain⟨a,cap,rfl,_,h⟩:=h;obtain⟨b,o,len,cap',e,hl,k⟩:=k;simp only[ATj,Value.slice.injEq,AVW]at e;obtain⟨rfl,rfl,rfl⟩:=e;rcases h with h|⟨b',o',e,hb,h⟩
  ·omega
  simp only[AON,Addr.mk.injEq,AVW]at e;obtain⟨rfl,rfl⟩:=e;rcases k with rfl|⟨i,y,cs,hy,Xq,hca,k⟩
  ·omega
  ·obtain⟨ds,d1,d2,d3⟩:=h i y hy
   have:=hca.unique d2 (by omega);subst this;exact wA d3 k
 | .cons _ _,_,_,h,k=>by
  simp only[Rd]at h;simp only[RB]at k;obtain⟨v,l,rfl,h1,h2⟩:=h;obtain⟨v',l',e,k⟩:=k;cases e;exact k.elim (wA h1) (wA h2)
theorem px{w w':World}{c:Nat}:∀{t:Ty} {vs x},(∀d,RB w t vs x d->w'.heap[d]? =w.heap[d]?)->RB w t vs x c->RB w' t vs x c
 | .int _,_,_,_,h=>by simp[RB]at h
 | .bool,_,_,_,h=>by simp[RB]at h
 | .str,_,_,_,h=>by simp[RB]at h
 | .unit,_,_,_,h=>by simp[RB]at h
 | .sl r,_,x,h,k=>by
  simp only[RB]at h k|-;obtain⟨b,o,len,cap,e,hl,k⟩:=k;refine⟨b,o,len,cap,e,hl,?_⟩;rcases k with rfl|⟨i,y,cs,hy,Xq,hca,k⟩
  ·omega
  ·have hb:=h b ⟨b,o,len,cap,e,hl,.inl rfl⟩
   exact .inr ⟨i,y,cs,hy,Xq,hca.of_block hb,px (fun d hd=>h d ⟨b,o,len,cap,e,hl,.inr ⟨i,y,cs,hy,Xq,hca,hd⟩⟩) k⟩
 | .cons _ _,_,_,h,k=>by
  simp only[RB]at h k|-;obtain⟨v,l,e,k⟩:=k;refine⟨v,l,e,k.elim (fun k=> .inl (px (fun d hd=>h d ⟨v,l,e,.inl hd⟩) k)) (fun k=> .inr (px (fun d hd=>h d ⟨v,l,e,.inr hd⟩) k))⟩
end Go.Fw
end
section
namespace Go.Fw
def Cg{α β:Type}(R:α->β->Prop):List α->List β->Prop
 |[],[]=>True
 |a::l,b::m=>R a b/\Cg R l m
 |_,_=>False
theorem Cg.len{α β:Type}{R:α->β->Prop}:∀{l:List α} {m:List β},Cg R l m->l.length=m.length
 |[],[],_=>rfl
 |_::_,_::_,h=>by simp[Cg.len h.2]
theorem Cg.get{α β:Type}{R:α->β->Prop}:∀{l:List α} {m:List β} {i:Nat} {a:α},Cg R l m->l[i]? =some a-> ∃b,m[i]? =some b/\R a b
 |_::_,_::_,0,a,h,e=>by simp at e;subst e;exact⟨_,rfl,h.1⟩
 |_::_,_::_,i+1,a,h,e=>by
  obtain⟨b,hb,hr⟩:=Cg.get (i:=i) h.2 (by simpa using e);simp_all
 |[],[],_,_,_,e=>by simp at e
theorem Cg.imp{α β:Type}{R S:α->β->Prop}(h:∀a b,R a b->S a b):∀{l:List α} {m:List β},Cg R l m->Cg S l m
 |[],[],_=>trivial
 |_::_,_::_,k=>⟨h _ _ k.1,Cg.imp h k.2⟩
structure Env where
 Ia:Nat->Nat
 IZ:Nat->Value
 T:Nat->Prop
 S:Nat->Prop
def JU(w:World):Value->List Xw->Option Value
 |h,[]=>some h
 | .slice (some a) _ _,s::p=>
  match w.cell? ⟨a.block,a.off+s.i*s.sz+s.j,none⟩with
  |some h=>JU w h p
  |none=>none
 |_,_::_=>none
def DT:(r:Ty)->List r.D->List Xw->Prop
 |_,_,[]=>True
 |r,rows,s::p=>s.i<rows.length/\s.sz=r.n/\
  match Ba r s.j (rowAt r rows s.i)with
  |some ⟨.sl q,x⟩=>DT q x p
  |_=>False
def WK(sz off n:Nat)(a:Option Addr)(cap:Nat):Value:=
 .slice (if cap=off then a else a.map (·.add (off*sz))) n (cap-off)
def isSlice:Value->Bool
 | .slice .. =>true
 |_=>false
def eD:Value->Bool
 | .pointer (some ⟨_,_,none⟩)=>true
 |_=>false
def RA(E:Env)(w:World)(q:(r:Ty)×r.D)(p:Value):Prop:= ∃bb o cs,p= .pointer (some ⟨bb,o,none⟩)/\E.T bb/\cs.length=q.1.n/\Bj w bb o cs/\Rd w E.T q.1 cs q.2
def VR(E:Env)(w:World)(vw:List Bx):AV->Value->Prop
 | .v t x,v=>t.scalar=true/\Rd w (fun _=>False) t [v] x
 | .sl s r x,v=>Rd w (if s then E.S else E.T) (.sl r) [v] x
 | .nil,v=>v= .slice none 0 0
 | .ref b p,v=>isSlice v=true/\match vw[b]? with
  |some (.sl _ r rows)=>DT r rows p/\(∃q,HZ r rows p=some q)/\JU w (E.IZ b) p=some v
  |some _=>True
  |none=>False
 | .win b p off n,v=>isSlice v=true/\match vw[b]? with
  |some (.sl _ r rows)=>DT r rows p/\ ∃q ys a len cap,HZ r rows p=some ⟨q,ys⟩/\off+n<=List.length ys/\JU w (E.IZ b) p=some (.slice a len cap)/\v=WK q.n off n a cap
  |some _=>True
  |none=>False
 | .I0 b j,v=>b<vw.length/\v= .pointer (some ⟨E.Ia b,j,none⟩)
 | .Ju b p i sz j,v=>eD v=true/\match vw[b]? with
  |some (.sl _ r rows)=>DT r rows p/\ ∃q ys bb o len cap,HZ r rows p=some ⟨q,ys⟩/\i<List.length ys/\JU w (E.IZ b) p=some (.slice (some ⟨bb,o,none⟩) len cap)/\v= .pointer (some ⟨bb,o+i*sz+j,none⟩)
  |some _=>True
  |none=>False
 | .QX s r x j,v=> ∃bb o cs,v= .pointer (some ⟨bb,o+j,none⟩)/\(if s then E.S else E.T) bb/\cs.length=r.n/\Bj w bb o cs/\Rd w (if s then E.S else E.T) r cs x
 | .fn f LO,v=>(∀b∈LO,b<vw.length)/\v= .func (.func f) #[] (LO.map fun b=>Value.pointer (some ⟨E.Ia b,0,none⟩)).toArray
 | .sf f rows,v=> ∃ps:List Value,v= .func (.func f) #[] ps.toArray/\Cg (RA E w) rows ps
 | .AAc,v=>v= .pointer none
 | .undef,_=>True
def kM(E:Env)(w:World)(vw:List Bx)(l:List AV)(vs:List Value):Prop:=Cg (VR E w vw) l vs
def TR(E:Env)(w:World)(vw:List Bx):AV ⊕ List AV->Value->Prop
 | .inl x,v=>VR E w vw x v
 | .inr q,v=> ∃vs,v= .agg vs/\kM E w vw q vs.toList
def XR(E:Env)(w:World)(vw:List Bx):XV->Value->Prop
 | .c x,v=>VR E w vw x v
 | .agg l,v=> ∃vs,v= .agg vs/\kM E w vw l vs.toList
 | .NW l,v=> ∃vs,v= .tuple vs/\Cg (TR E w vw) l vs.toList
def sd(E:Env)(w:World)(vw:List Bx)(k:Nat):Bx->List Nat->Prop
 | .mem cs,F=>F=[E.Ia k]/\ ∃arr ty fr,w.heap[E.Ia k]? =some (.cells arr ty fr)/\w_ fr (arr.size+1)/\kM E w vw cs arr.toList
 | .sl d r rows,F=>1<=d/\Ow w E.S d (.sl r) [E.IZ k] rows F
 | .dead,F=>F=[]
structure Sep (E:Env) (w:World) (F:ABU):Prop where
 nodup:F.Nodup
 free:∀c∈F,¬E.T c
 lt:∀c∈F,c<w.heap.size
 st:∀c,E.S c->E.T c
 eT:∀c,E.T c->c<w.heap.size
def OG(E:Env)(w:World)(vw bx:List Bx)(Fs:List ABU):Prop:=
 Fs.length=bx.length/\ ∀k B F,bx[k]? =some B->Fs[k]? =some F->sd E w vw k B F
def DQ(E:Env)(w:World)(vw bx:List Bx)(G:ABU):Prop:=
 ∃Fs,OG E w vw bx Fs/\Sep E w (Fs.flatten++G)
structure Le (E E':Env):Prop where
 Ia:E'.Ia=E.Ia
 IZ:E'.IZ=E.IZ
 T:∀c,E.T c->E'.T c
 S:∀c,E.S c->E'.S c
 Tof:∀c,E'.T c->E.T c\/E'.S c
 Sof:∀c,E'.S c->E.S c\/ ¬E.T c
theorem Le.refl(E:Env):Le E E:=⟨rfl,rfl,fun _ h=>h,fun _ h=>h,fun _ h=> .inl h,fun _ h=> .inl h⟩
theorem Le.trans{E E' E'':Env}(h:Le E E')(k:Le E' E''):Le E E'':=
 ⟨k.Ia.trans h.Ia,k.IZ.trans h.IZ,fun c hc=>k.T c (h.T c hc),fun c hc=>k.S c (h.S c hc),
  fun c hc=>(k.Tof c hc).elim (fun h' =>(h.Tof c h').imp id (k.S c)) .inr,
  fun c hc=>(k.Sof c hc).elim (h.Sof c) (fun h' => .inr fun ht=>h' (h.T c ht))⟩
theorem gK{w B}:∀{r:Ty} {cs x j t y},Rd w B r cs x->Ba r j x=some ⟨t,y⟩-> ∃v,cs[j]? =some v/\Rd w B t [v] y
 | .cons c r,cs,x,0,t,y,h,e=>by
  simp only[Rd]at h;obtain⟨v,l,rfl,h1,h2⟩:=h;simp only[Ba,AON,ARQ]at e;grind
 | .cons c r,cs,x,j+1,t,y,h,e=>by
  simp only[Rd]at h;obtain⟨v,l,rfl,h1,h2⟩:=h;simp only[Ba]at e;obtain⟨u,hu,hr⟩:=gK h2 e;simp_all
 | .int k,cs,x,0,t,y,h,e=>by
  simp only[Ba,AON,ARQ]at e;obtain⟨rfl,e⟩:=e;obtain rfl:=AU_ e;simp only[Rd]at h;subst h;exact⟨_,rfl,by rfl⟩
 | .bool,cs,x,0,t,y,h,e=>by
  simp only[Ba,AON,ARQ]at e;obtain⟨rfl,e⟩:=e;obtain rfl:=AU_ e;simp only[Rd]at h;subst h;exact⟨_,rfl,by rfl⟩
 | .str,cs,x,0,t,y,h,e=>by
  simp only[Ba,AON,ARQ]at e;obtain⟨rfl,e⟩:=e;obtain rfl:=AU_ e;simp only[Rd]at h;subst h;exact⟨_,rfl,by rfl⟩
 | .sl r,cs,x,0,t,y,h,e=>by
  simp only[Ba,AON,ARQ]at e;obtain⟨rfl,e⟩:=e;obtain rfl:=AU_ e;have h':=h;simp only[Rd]at h;grind
 | .unit,_,_,_,_,_,_,e=>by simp[Ba]at e
 | .int _,_,_,_+1,_,_,_,e=>by simp[Ba]at e
 | .bool,_,_,_+1,_,_,_,e=>by simp[Ba]at e
 | .str,_,_,_+1,_,_,_,e=>by simp[Ba]at e
 | .sl _,_,_,_+1,_,_,_,e=>by simp[Ba]at e
theorem SV{r:Ty}{rows:List r.D}{i:Nat}(h:i<rows.length):rows[i]? =some (rowAt r rows i):=by
 simp[rowAt,h]
theorem qC{w:World}{B:Nat->Prop}:∀{p:List Xw} {r:Ty} {h:Value} {rows:List r.D} {q:Ty} {ys:List q.D},
  Rd w B (.sl r) [h] rows->DT r rows p->HZ r rows p=some ⟨q,ys⟩->
  ∃h',(∀w':World,(∀b,B b->w'.heap[b]? =w.heap[b]?)->JU w' h p=some h')/\Rd w B (.sl q) [h'] ys
 |[],r,h,rows,q,ys,hr,_,hg=>by
  simp only[HZ,AON,ARQ]at hg;obtain⟨rfl,e⟩:=hg;obtain rfl:=AU_ e;exact⟨h,fun w' _=>by rfl,hr⟩
 |s::p,r,h,rows,q,ys,hr,hp,hg=>by
  simp only[DT]at hp;obtain⟨hi,QW,hp⟩:=hp;simp only[HZ]at hg;simp only[Rd]at hr;obtain⟨a,cap,hh,_,hr⟩:=hr;obtain rfl:=(List.cons.inj hh).1;rcases hr with hr|⟨b,o,rfl,hb,hr⟩
  ·omega
  obtain⟨cs,hl,hc,hrow⟩:=hr s.i _ (SV hi);split at hg
  ·rename_i q' x' jl
   rw[jl]at hp;obtain⟨v,hv,hrv⟩:=gK hrow jl;obtain⟨h',hh',ZH⟩:=qC hrv hp hg;refine⟨h',fun w' tL=> ?_,ZH⟩;simp only[JU];have bt:w'.cell? ⟨b,o+s.i*s.sz+s.j,none⟩=some v:=by
    rw[QW];exact(World.cell?_of_block (a:=⟨b,_,none⟩) (tL b hb)).trans (hc _ _ hv)
   simp_all
  simp_all
theorem DL{w:World}{h:Value}:JU w h []=some h:=by rfl
structure T8 (E:Env) (w:World) (vw:List Bx) (E':Env) (w':World) (vw':List Bx):Prop where
 len:vw.length<=vw'.length
 Ia:∀b,b<vw.length->E'.Ia b=E.Ia b
 T:∀b,E.T b->E'.T b
 S:∀b,E.S b->E'.S b
 st:∀b,E.S b->E.T b
 heap:∀b,E.T b->w'.heap[b]? =w.heap[b]?
 box:∀b d r rows,b<vw.length->vw'[b]? =some (.sl d r rows)-> ∃d0 S7,vw[b]? =some (.sl d0 r S7)/\
  ∀p,DT r S7 p-> ∀q ys,HZ r S7 p=some ⟨q,ys⟩->DT r rows p/\(∃wi,HZ r rows p=some ⟨q,wi⟩/\List.length wi=List.length ys)/\
   ∀h,JU w (E.IZ b) p=some h->JU w' (E'.IZ b) p=some h
theorem Qk{α:Type}{l l':List α}{b:Nat}{x:α}(h:l.length<=l'.length)(e:l[b]? =some x):∃y,l'[b]? =some y:=
 ⟨l'[b]'(AVS (AOS.1 e).1 h),AOM _⟩
theorem Gi{E E':Env}{w w':World}{vw vw':List Bx}(k:T8 E w vw E' w' vw'):∀{x:AV} {v:Value},VR E w vw x v->VR E' w' vw' x v:=by
 intro x v h;cases x with
 |v t x=>exact⟨h.1,GD (fun _ h=>h) (fun _ h=>h.elim) h.2⟩
 |sl s r x=>
  simp only[VR]at h|-;cases s with
  |false=>exact GD k.T k.heap (by simp_all)
  |true=>exact GD k.S (fun b hb=>k.heap b (k.st b hb)) (by simp_all)
 |nil=>exact h
 |ref b p=>
  simp only[VR]at h|-;obtain⟨h0,h⟩:=h;refine⟨h0,?_⟩;cases e:vw[b]? with
  |none=>simp_all
  |some B=>
   rw[e]at h;have Ha:=(AOS.1 e).1;obtain⟨B',e'⟩:=Qk k.len e;rw[e'];cases B' with
   |mem cs=>trivial
   |dead=>trivial
   |sl d r rows=>
    obtain⟨d0,S7,e0,hk⟩:=k.box b d r rows Ha e';grind
 |win b p off n=>
  simp only[VR]at h|-;obtain⟨h0,h⟩:=h;refine⟨h0,?_⟩;cases e:vw[b]? with
  |none=>simp_all
  |some B=>
   rw[e]at h;have Ha:=(AOS.1 e).1;obtain⟨B',e'⟩:=Qk k.len e;rw[e'];cases B' with
   |mem cs=>trivial
   |dead=>trivial
   |sl d r rows=>
    obtain⟨d0,S7,e0,hk⟩:=k.box b d r rows Ha e';grind
 |I0 b j=>exact⟨AVS h.1 k.len,by rw[h.2,k.Ia b h.1]⟩
 |Ju b p i sz j=>
  simp only[VR]at h|-;obtain⟨h0,h⟩:=h;refine⟨h0,?_⟩;cases e:vw[b]? with
  |none=>simp_all
  |some B=>
   rw[e]at h;have Ha:=(AOS.1 e).1;obtain⟨B',e'⟩:=Qk k.len e;rw[e'];cases B' with
   |mem cs=>trivial
   |dead=>trivial
   |sl d r rows=>
    obtain⟨d0,S7,e0,hk⟩:=k.box b d r rows Ha e';grind
 |QX s r x j=>
  simp only[VR]at h|-;obtain⟨bb,o,cs,hv,hb,hl,hc,hr⟩:=h;cases s with
  |false=>exact⟨bb,o,cs,hv,k.T bb (by simp_all),hl,hc.of_block (k.heap bb (by simp_all)),GD k.T k.heap (by simp_all)⟩
  |true=>exact⟨bb,o,cs,hv,k.S bb (by simp_all),hl,hc.of_block (k.heap bb (k.st bb (by simp_all))),GD k.S (fun b hb=>k.heap b (k.st b hb)) (by simp_all)⟩
 |fn f LO=>
  refine⟨fun b hb=>AVS (h.1 b hb) k.len,?_⟩;rw[h.2];congr 2;exact AVf fun b hb=>by rw[k.Ia b (h.1 b hb)]
 |sf f rows=>
  obtain⟨ps,hv,h⟩:=h;exact⟨ps,hv,h.imp fun q p ⟨bb,o,cs,h1,h2,h3,h4,h5⟩=>⟨bb,o,cs,h1,k.T bb h2,h3,h4.of_block (k.heap bb h2),GD k.T k.heap h5⟩⟩
 |AAc=>exact h
 |undef=>trivial
theorem P5{E E':Env}{w w':World}{vw vw':List Bx}(k:T8 E w vw E' w' vw'):∀{x:XV} {v:Value},XR E w vw x v->XR E' w' vw' x v
 | .c _,_,h=>Gi k h
 | .agg _,_,⟨vs,hv,h⟩=>⟨vs,hv,h.imp fun _ _ h=>Gi k h⟩
 | .NW l,_,⟨vs,hv,h⟩=>⟨vs,hv,h.imp fun
  | .inl _,_,h=>Gi k h
  | .inr _,_,⟨ws,hw,h⟩=>⟨ws,hw,h.imp fun _ _ h=>Gi k h⟩⟩
theorem T8.refl{E:Env}{w:World}{vw:List Bx}(st:∀b,E.S b->E.T b):T8 E w vw E w vw:=
 ⟨ATX _,fun _ _=>rfl,fun _ h=>h,fun _ h=>h,st,fun _ _=>rfl,fun b d r rows _ h=>⟨d,rows,h,fun p hp q ys hg=>⟨hp,⟨ys,hg,rfl⟩,fun _ h=>h⟩⟩⟩
theorem T8.trans{E E' E'':Env}{w w' w'':World}{vw vw' AZK:List Bx}(k:T8 E w vw E' w' vw')(k':T8 E' w' vw' E'' w'' AZK):T8 E w vw E'' w'' AZK where
 len:=AVG k.len k'.len
 Ia:=fun b hb=>(k'.Ia b (AVS hb k.len)).trans (k.Ia b hb)
 T:=fun b h=>k'.T b (k.T b h)
 S:=fun b h=>k'.S b (k.S b h)
 st:=k.st
 heap:=fun b h=>(k'.heap b (k.T b h)).trans (k.heap b h)
 box:=fun b d r rows hb h=>by
  obtain⟨d1,AO4,h1,k1⟩:=k'.box b d r rows (AVS hb k.len) h;obtain⟨d0,S7,h0,k0⟩:=k.box b d1 r AO4 hb h1;grind
theorem v7{w w':World}{S:Nat->Prop}{d:Nat}{r:Ty}{h:Value}{rows:List r.D}{F:ABU}(ho:Ow w S d (.sl r) [h] rows F)
  (hS:∀b,S b->w'.heap[b]? =w.heap[b]?) (hF:∀b∈F,w'.heap[b]? =w.heap[b]?) {p:List Xw} (hp:DT r rows p) {q:Ty} {ys:List q.D} (hg:HZ r rows p=some ⟨q,ys⟩)
  {h':Value} (hh:JU w h p=some h'):JU w' h p=some h':=by
 obtain⟨h1,k,_⟩:=qC (Ye ho) hp hg;grind
end Go.Fw
end
section
namespace Go.Fw
theorem Cg.set{α β:Type}{R:α->β->Prop}:∀{l:List α} {m:List β} {i:Nat} {a:α} {b:β},Cg R l m->R a b->Cg R (l.set i a) (m.set i b)
 |[],[],_,_,_,_,_=>trivial
 |_::_,_::_,0,_,_,h,r=>⟨r,h.2⟩
 |_::_,_::_,i+1,_,_,h,r=>⟨h.1,Cg.set h.2 r⟩
theorem Cg.append{α β:Type}{R:α->β->Prop}:∀{l:List α} {m:List β} {l':List α} {m':List β},Cg R l m->Cg R l' m'->Cg R (l++l') (m++m')
 |[],[],_,_,_,h=>h
 |_::_,_::_,_,_,h,k=>⟨h.1,Cg.append h.2 k⟩
theorem Cg.MR{α β γ:Type}{R:α->β->Prop}{S:γ->β->Prop}(f:α->γ)(h:∀a b,R a b->S (f a) b):∀{l:List α} {m:List β},Cg R l m->Cg S (l.map f) m
 |[],[],_=>trivial
 |_::_,_::_,k=>⟨h _ _ k.1,Cg.MR f h k.2⟩
theorem Cg.drop{α β:Type}{R:α->β->Prop}:∀{l:List α} {m:List β} (n:Nat),Cg R l m->Cg R (l.drop n) (m.drop n)
 |_,_,0,h=>h
 |[],[],_+1,_=>trivial
 |_::_,_::_,n+1,h=>Cg.drop n h.2
theorem Cg.take{α β:Type}{R:α->β->Prop}:∀{l:List α} {m:List β} (n:Nat),Cg R l m->Cg R (l.take n) (m.take n)
 |[],[],0,_=>trivial
 |_::_,_::_,0,_=>trivial
 |[],[],_+1,_=>trivial
 |_::_,_::_,n+1,h=>⟨h.1,Cg.take n h.2⟩
structure fJ (E0:Env) (w0:World) (E:Env) (w:World):Prop where
 T:∀c,E0.T c->E.T c
 S:∀c,E0.S c->E.S c
 Tof:∀c,E.T c->E0.T c\/E.S c
 Sof:∀c,E.S c->E0.S c\/ ¬E0.T c
 heap:∀c,E0.T c->w.heap[c]? =w0.heap[c]?
 os:w.os=w0.os
 tape:w.tape=w0.tape
 output:w.output=w0.output
 size:w0.heap.size<=w.heap.size
theorem fJ.refl(E:Env)(w:World):fJ E w E w:=⟨fun _ h=>h,fun _ h=>h,fun _ h=> .inl h,fun _ h=> .inl h,fun _ _=>rfl,rfl,rfl,rfl,ATX _⟩
theorem fJ.trans{E E' E'':Env}{w w' w'':World}(h:fJ E w E' w')(k:fJ E' w' E'' w''):fJ E w E'' w'':=
 ⟨fun c hc=>k.T c (h.T c hc),fun c hc=>k.S c (h.S c hc),fun c hc=>(k.Tof c hc).elim (fun h' =>(h.Tof c h').imp id (k.S c)) .inr,
  fun c hc=>(k.Sof c hc).elim (h.Sof c) (fun h' => .inr fun ht=>h' (h.T c ht)),fun c hc=>(k.heap c (h.T c hc)).trans (h.heap c hc),
  k.os.trans h.os,k.tape.trans h.tape,k.output.trans h.output,AVG h.size k.size⟩
theorem Le.base{E E':Env}(h:Le E E')(w:World):fJ E w E' w:=⟨h.T,h.S,h.Tof,h.Sof,fun _ _=>rfl,rfl,rfl,rfl,ATX _⟩
def y_(E:Env)(w:World)(k:Nat):Bx->Nat->Prop
 | .mem _,c=>c=E.Ia k
 | .sl _ r rows,c=>RB w (.sl r) [E.IZ k] rows c
 | .dead,_=>False
def WS:Bx->Bx->Prop
 | .mem _,.mem _=>True
 | .sl _ r x,.sl _ q y=>(⟨r,x⟩:(r:Ty)×List r.D)=⟨q,y⟩
 |_,_=>False
structure Sk (t:ABU) (E0:Env) (bx0:List Bx) (w0:World) (E:Env) (bx:List Bx) (w:World):Prop where
 base:fJ E0 w0 E w
 len:bx0.length<=bx.length
 ids:∀b,b<bx0.length->E.Ia b=E0.Ia b/\E.IZ b=E0.IZ b
 dead:∀b:Nat,bx0[b]? =some Bx.dead->bx[b]? =some Bx.dead
 frame:∀(n:Nat) B B',n∉t->bx0[n]? =some B->bx[n]? =some B'->B'≠ .dead->WS B B'/\ ∀c,y_ E0 w0 n B c->w.heap[c]? =w0.heap[c]?
theorem Sk.any{E E':Env}{bx RX:List Bx}{w w':World}(h:Sk [] E bx w E' RX w'){t:ABU}:Sk t E bx w E' RX w':=
 ⟨h.base,h.len,h.ids,h.dead,fun n B B' _=>h.frame n B B' (by simp)⟩
theorem WS.refl{B:Bx}(h:B≠ .dead):WS B B:=by cases B<;>simp_all[WS]
theorem Sk.refl(t:ABU)(E:Env)(bx:List Bx)(w:World):Sk t E bx w E bx w:=⟨fJ.refl E w,ATX _,fun _ _=>⟨rfl,rfl⟩,fun _ h=>h,fun n B B' _ h h' hd=>by
 rw[h]at h';cases h';exact⟨WS.refl hd,fun _ _=>rfl⟩⟩
theorem gH{E:Env}{w:World}{vw:List Bx}{k:Nat}{B:Bx}{F:ABU}{c:Nat}(h:sd E w vw k B F)(hc:y_ E w k B c):E.S c\/c∈F:=by
 cases B with
 |mem cs=>obtain⟨rfl,_⟩:=h;grind[y_]
 |sl d r rows=>exact wA (Ye h.2) hc
 |dead=>exact hc.elim
structure Rel (E:Env) (σ:St) (a:Act) (w:World):Prop where
 Od:a.defers=[]
 tm:Cg (XR E w σ.bx) σ.tm a.tmps.toList
 bx:DQ E w σ.bx σ.bx []
theorem Rel.put{E:Env}{σ:St}{a:Act}{w:World}(h:Rel E σ a w)(dst:Option Tmp){x:XV}{v:Value}(hx:XR E w σ.bx x v):Rel E (σ.put dst x) (a.put dst v) w:=by
 cases dst with
 |none=>exact h
 |some d=>exact⟨h.Od,by simpa[St.put,Act.put]using Cg.set h.tm hx,h.bx⟩
theorem Cg.AU9{E:Env}{w:World}{vw:List Bx}{l:List XV}{m:Array Value}(h:Cg (XR E w vw) l m.toList)(t:Nat):XR E w vw (l.getD t (.c .undef)) (m.getD t undef):=by
 by_cases ht:t<l.length
 ·have e:l[t]? =some l[t]:=AOM ht
  obtain⟨b,hb,hr⟩:=h.get e;simp_all
 ·have e:l[t]? =none:=by simp_all
  simp only[List.getD_eq_getElem?_getD,e,Option.getD_none]
  trivial
theorem ua{E:Env}{w:World}{vw:List Bx}(v:Value):VR E w vw (re v) v:=by
 unfold re;split<;>first
  |trivial
  |exact⟨rfl,by simp[Rd]⟩
  |rfl
theorem om{E:Env}{w:World}{vw:List Bx}:∀(l:List Value),kM E w vw (l.map re) l
 |[]=>trivial
 |a::l=>⟨ua a,om l⟩
theorem AAs{E:Env}{w:World}{vw:List Bx}(v:Value):XR E w vw (ofValue v) v:=by
 unfold ofValue;split
 ·rename_i cs
  exact⟨cs,rfl,om cs.toList⟩
 ·exact ua v
theorem Rel.ev{E:Env}{σ:St}{a:Act}{w:World}(h:Rel E σ a w)(x:Operand):XR E w σ.bx (σ.ev x) (a.eval x):=by
 cases x with
 |tmp t=>exact Cg.AU9 h.tm t
 |const v=>exact AAs v
 |global g=>trivial
 |func f=>exact⟨by simp,rfl⟩
theorem VX{b:Nat}:∀{Fs:List ABU} {F:ABU},Fs[b]? =some F->Fs.flatten.Perm (F++(Fs.set b []).flatten):=by
 induction b with
 |zero=>
  intro Fs F h;cases Fs with
  |nil=>simp at h
  |cons A l=>simp_all
 |succ b ih=>
  intro Fs F h;cases Fs with
  |nil=>simp at h
  |cons A l=>
   grind
theorem Sep.perm{E:Env}{w:World}{F F':ABU}(h:Sep E w F)(p:F.Perm F'):Sep E w F':=
 ⟨p.nodup_iff.1 h.nodup,fun c hc=>h.free c (p.mem_iff.2 hc),fun c hc=>h.lt c (p.mem_iff.2 hc),h.st,h.eT⟩
theorem Sep.sub{E:Env}{w:World}{F F':ABU}(h:Sep E w (F++F')):Sep E w F:=
 ⟨(ARZ.1 h.nodup).1,fun c hc=>h.free c (by simp[hc]),fun c hc=>h.lt c (by simp[hc]),h.st,h.eT⟩
theorem DQ.perm{E:Env}{w:World}{vw bx:List Bx}{G G':ABU}(h:DQ E w vw bx G)(p:G.Perm G'):DQ E w vw bx G':=
 let⟨Fs,h1,h2⟩:=h
 ⟨Fs,h1,h2.perm (AZL _ p)⟩
theorem DQ.drop{E:Env}{w:World}{vw bx:List Bx}{G G':ABU}(h:DQ E w vw bx (G++G')):DQ E w vw bx G:=
 let⟨Fs,h1,h2⟩:=h
 ⟨Fs,h1,by rw[<-AQM]at h2;exact h2.sub⟩
theorem DQ.st{E:Env}{w:World}{vw bx:List Bx}{G:ABU}(h:DQ E w vw bx G):∀c,E.S c->E.T c:=let⟨_,_,h⟩:=h;h.st
theorem DQ.eT{E:Env}{w:World}{vw bx:List Bx}{G:ABU}(h:DQ E w vw bx G):∀c,E.T c->c<w.heap.size:=let⟨_,_,h⟩:=h;h.eT
theorem DQ.AG4{E:Env}{w:World}{vw bx:List Bx}{G:ABU}(h:DQ E w vw bx G):∀c∈G,¬E.T c:=let⟨_,_,h⟩:=h;fun c hc=>h.free c (by simp[hc])
theorem DQ.take{E:Env}{w:World}{vw bx:List Bx}{G:ABU}(h:DQ E w vw bx G){b:Nat}{B:Bx}(hb:bx[b]? =some B):
  ∃F,sd E w vw b B F/\DQ E w vw (bx.set b .dead) (F++G):=by
 obtain⟨Fs,⟨hl,h1⟩,h2⟩:=h;have Ha:=(AOS.1 hb).1;have hF:Fs[b]? =some (Fs[b]'(by omega)):=AOM _;refine⟨_,h1 b B _ hb hF,Fs.set b [],⟨by simp_all,fun k C F hk hkF=> ?_⟩,h2.perm ?_⟩
 ·by_cases e:k=b
  ·subst e
   rw[AVe (by omega)]at hk hkF;cases hk;cases hkF;rfl
  grind
 grind[List.Perm.append_right,VX,List.append_assoc,List.perm_append_comm,trans,List.Perm.append_left]
theorem DQ.put{E:Env}{w:World}{vw bx:List Bx}{F G:ABU}(h:DQ E w vw bx (F++G)){b:Nat}{B:Bx}(hb:bx[b]? =some .dead)(hB:sd E w vw b B F):
  DQ E w vw (bx.set b B) G:=by
 obtain⟨Fs,⟨hl,h1⟩,h2⟩:=h;have Ha:=(AOS.1 hb).1;have hF:Fs[b]? =some (Fs[b]'(by omega)):=AOM _;have e0:Fs[b]'(by omega)=[]:=h1 b _ _ hb hF;refine⟨Fs.set b F,⟨by simp_all,fun k C F' hk hkF=> ?_⟩,h2.perm ?_⟩
 ·grind
 ·have p:(Fs.set b F).flatten.Perm (F++Fs.flatten):=by
   have p1:=VX (Fs:=Fs.set b F) (b:=b) (F:=F) (AVe (by omega));rw[AZu]at p1;have p2:=VX hF;grind
  grind
theorem DQ.push{E:Env}{w:World}{vw bx:List Bx}{F G:ABU}(h:DQ E w vw bx (F++G)){B:Bx}(hB:sd E w vw bx.length B F):
  DQ E w vw (bx++[B]) G:=by
 obtain⟨Fs,⟨hl,h1⟩,h2⟩:=h;refine⟨Fs++[F],⟨by simp[hl],fun k C F' hk hkF=> ?_⟩,h2.perm (by simp)⟩;grind
theorem DQ.turn{E E':Env}{w w':World}{vw vw' bx:List Bx}{G:ABU}(h:DQ E w vw bx G)(k:∀x v,VR E w vw x v->VR E' w' vw' x v)
  (hS:∀c,E.S c->E'.S c) (AGL:∀b,b<bx.length->E'.Ia b=E.Ia b) (pD:∀b,b<bx.length->E'.IZ b=E.IZ b)
  (hw:∀c,(E.S c\/(¬E.T c/\c∉G))->c<w.heap.size->w'.heap[c]? =w.heap[c]?)
  (AHY:∀F,Sep E w (F++G)->Sep E' w' (F++G)):DQ E' w' vw' bx G:=by
 obtain⟨Fs,⟨hl,h1⟩,h2⟩:=h;refine⟨Fs,⟨hl,fun n B F hn hF=> ?_⟩,AHY _ h2⟩;have Ha:=(AOS.1 hn).1;have h3:=h1 n B F hn hF;have ATC:∀c∈F,c∈Fs.flatten:=fun c hc=>AVK.2 ⟨F,ASU hF,hc⟩
 have hFw:∀c∈F,w'.heap[c]? =w.heap[c]?:=fun c hc=>hw c (.inr ⟨h2.free c (by simp_all),fun hg=>by
  have:=(ARZ.1 h2.nodup).2.2 c (ATC c hc) c hg;omega⟩) (h2.lt c (by simp_all))
 have uk:∀c,E.S c->w'.heap[c]? =w.heap[c]?:=fun c hc=>hw c (.inl hc) (h2.eT c (h2.st c hc))
 cases B with
 |mem cs=>
  obtain⟨rfl,arr,ty,fr,ha,hu,hv⟩:=h3;refine⟨by simp_all,arr,ty,fr,?_,hu,hv.imp k⟩;simp_all
 |sl d r rows=>
  obtain⟨hd,ho⟩:=h3;refine⟨hd,?_⟩;grind[En]
 |dead=>exact h3
end Go.Fw
end
section
namespace Go.Fw
theorem Ij{β:Ty->Type}{a b:Ty}{x:β a}{y:β b}(h:Rt a b x=some y):∃e:a=b,e▸x=y:=by
 grind[Rt]
def Fg(bk vw:List Bx):Prop:= ∀(b:Nat) (B:Bx),bk[b]? =some B->B= .dead\/vw[b]? =some B
theorem Fg.refl(bx:List Bx):Fg bx bx:=fun _ _ h=> .inr h
theorem Addr.add_eq(b o n:Nat):(⟨b,o,none⟩:Addr).add n=⟨b,o+n,none⟩:=by grind[Addr.add]
theorem zS{w:World}{B:Nat->Prop}{r:Ty}{a:Option Addr}{len cap:Nat}{ys:List r.D}(h:Rd w B (.sl r) [.slice a len cap] ys){off n:Nat}(hn:off+n<=ys.length):
  Rd w B (.sl r) [WK r.n off n a cap] ((ys.drop off).take n):=by
 simp only[Rd]at h|-;obtain⟨a',cap',e,hc,h⟩:=h;simp only[ATj,Value.slice.injEq,AVW]at e;obtain⟨rfl,rfl,rfl⟩:=e;have hl:((ys.drop off).take n).length=n:=by grind
 refine⟨_,_,by unfold WK;rw[hl],by omega,?_⟩;rw[hl];by_cases h0:n=0
 ·omega
 ·rcases h with h|⟨b,o,rfl,hb,h⟩
  ·omega
  ·refine .inr ⟨b,o+off*r.n,?_,hb,fun i y hy=> ?_⟩
   ·rw[AOK (by omega)]
    simp[Addr.add_eq]
   grind
def r_(E:Env)(Fs:List ABU)(c:Nat):Prop:=E.T c\/c∈Fs.flatten
section
variable{E:Env} {w:World} {vw bk:List Bx} {Fs:List ABU}
theorem OG.get(h:OG E w vw bk Fs){b:Nat}{B:Bx}(e:bk[b]? =some B):∃F,sd E w vw b B F/\ ∀c∈F,c∈Fs.flatten:=by
 have Ha:=(AOS.1 e).1;have hF:Fs[b]? =some (Fs[b]'(by rw[h.1];omega)):=AOM _;exact⟨_,h.2 b B _ e hF,fun c hc=>AVK.2 ⟨_,ASU hF,hc⟩⟩
theorem eg(hs:Fg bk vw)(h:OG E w vw bk Fs)(st:∀c,E.S c->E.T c){b d:Nat}{r:Ty}{rows:List r.D}(e:bk[b]? =some (.sl d r rows))
  {p:List Xw} (hp:DT r rows p) {q:Ty} {ys:List q.D} (hg:HZ r rows p=some ⟨q,ys⟩) {v:Value} (hh:JU w (E.IZ b) p=some v):
  Rd w (r_ E Fs) (.sl q) [v] ys:=by
 obtain⟨F,⟨_,ho⟩,hF⟩:=h.get e;obtain⟨h',k,hr⟩:=qC (Ye ho) hp hg;have:=k w (fun _ _=>rfl);rw[hh]at this;cases this;exact GD (fun c hc=>hc.elim (fun hc=> .inl (st c hc)) (fun hc=> .inr (hF c hc))) (fun _ _=>rfl) hr
theorem Zz(hs:Fg bk vw){b d:Nat}{r:Ty}{rows:List r.D}(e:bk[b]? =some (.sl d r rows)):vw[b]? =some (.sl d r rows):=by
 rcases hs b _ e with h|h
 all_goals simp_all
theorem bh(hs:Fg bk vw)(h:OG E w vw bk Fs)(st:∀c,E.S c->E.T c){x:AV}{v:Value}(hv:VR E w vw x v){q:Ty}{ys:List q.D}(e:OU bk x=some ⟨q,ys⟩):
  Rd w (r_ E Fs) (.sl q) [v] ys:=by
 cases x with
 |sl s r x=>
  simp only[OU,AON,ARQ]at e;obtain⟨rfl,e⟩:=e;obtain rfl:=AU_ e;simp only[VR]at hv;refine GD (fun c hc=> ?_) (fun _ _=>rfl) hv;cases s
  ·exact .inl (by simp_all)
  ·exact .inl (st c (by simp_all))
 |ref b p=>
  grind[OU,VR,Zz,eg]
 |win b p off n=>
  simp only[OU]at e;split at e
  ·rename_i d r rows hb
   simp only[VR,Zz hs hb]at hv;obtain⟨_,hp,q',wi,a,len,cap,hg,hl,hh,rfl⟩:=hv;rw[hg]at e;simp only[Option.map_some,AON,ARQ]at e;obtain⟨rfl,e⟩:=e;obtain rfl:=AU_ e;grind[zS,eg]
  simp_all
 |_=>simp[OU]at e
theorem Vr(hs:Fg bk vw)(h:OG E w vw bk Fs)(st:∀c,E.S c->E.T c){t:Ty}{x:AV}{v:Value}(hv:VR E w vw x v){y:t.D}(e:Nk bk t x=some y):
  Rd w (r_ E Fs) t [v] y:=by
 have sl:∀(r:Ty) (x:AV) (v:Value) (y:List r.D),VR E w vw x v->((OU bk x).bind fun q=>Rt (β:=fun r=>List r.D) q.1 r q.2)=some y->Rd w (r_ E Fs) (.sl r) [v] y:=by
  grind[Option.bind_eq_some_iff,Ij,bh]
 cases x with
 |v u z=>
  simp only[Nk]at e;obtain⟨e1,e2⟩:=Ij e;subst e1;subst e2;exact GD (fun _ hc=>hc.elim) (fun _ hc=>hc.elim) hv.2
 |nil=>
  cases t with
  |sl r=>
   simp only[Nk,AON]at e;subst e;simp only[VR]at hv;subst hv;simp only[Rd];simp_all
  |_=>simp[Nk]at e
 |_=>
  cases t with
  |sl r=>exact sl r _ _ y hv (by simpa only[Nk]using e)
  |_=>simp[Nk]at e
theorem iu(hs:Fg bk vw)(h:OG E w vw bk Fs)(st:∀c,E.S c->E.T c):∀{r:Ty} {l:List AV} {vs:List Value} {x:r.D},kM E w vw l vs->Ie bk r l=some x->
  Rd w (r_ E Fs) r vs x
 | .unit,[],[],x,_,_=>by rfl
 | .cons c r,a::l,v::vs,x,hv,e=>by
  simp only[Ie,AOc,AOP]at e;obtain⟨y,e1,z,e2,rfl⟩:=e;simp only[Rd];exact⟨v,vs,rfl,Vr hs h st hv.1 e1,iu hs h st hv.2 e2⟩
 | .unit,_::_,_,_,_,e=>by simp[Ie]at e
 | .unit,[],_::_,_,hv,_=>hv.elim
 | .cons _ _,[],_,_,_,e=>by simp[Ie]at e
 | .cons _ _,_::_,[],_,hv,_=>hv.elim
 | .int _,_,_,_,_,e=>by simp[Ie]at e
 | .bool,_,_,_,_,e=>by simp[Ie]at e
 | .str,_,_,_,_,e=>by simp[Ie]at e
 | .sl _,_,_,_,_,e=>by simp[Ie]at e
theorem kU{E1:Env}{y7:List Bx}(hs:Fg bk vw)(h:OG E w vw bk Fs)(st:∀c,E.S c->E.T c)(hT:∀c,r_ E Fs c->E1.T c):
  ∀{r:Ty} {l:List AV} {vs:List Value} {x:r.D},kM E w vw l vs->Ie bk r l=some x->kM E1 w y7 (q7 r x) vs
 | .unit,[],[],x,_,_=>trivial
 | .cons c r,a::l,v::vs,x,hv,e=>by
  simp only[Ie,AOc,AOP]at e;obtain⟨y,e1,z,e2,rfl⟩:=e;have ZH:=Vr hs h st hv.1 e1;have tl:kM E1 w y7 _ _:=kU hs h st hT hv.2 e2;cases c with
  |sl q=>
   refine⟨?_,tl⟩;simp only[VR];exact GD hT (fun _ _=>rfl) (by omega)
  |int k=>exact⟨⟨rfl,by grind[Rd]⟩,tl⟩
  |bool=>exact⟨⟨rfl,by grind[Rd]⟩,tl⟩
  |str=>exact⟨⟨rfl,by grind[Rd]⟩,tl⟩
  |unit=>
   grind[Rd]
  |cons c' r' =>
   exfalso
   cases a with
   |v u z=>
    simp only[Nk]at e1;obtain⟨e3,_⟩:=Ij e1;subst e3;exact absurd hv.1.1 (by simp[Ty.scalar])
   |_=>simp[Nk]at e1
 | .unit,_::_,_,_,_,e=>by simp[Ie]at e
 | .unit,[],_::_,_,hv,_=>hv.elim
 | .cons _ _,[],_,_,_,e=>by simp[Ie]at e
 | .cons _ _,_::_,[],_,hv,_=>hv.elim
 | .int _,_,_,_,_,e=>by simp[Ie]at e
 | .bool,_,_,_,_,e=>by simp[Ie]at e
 | .str,_,_,_,_,e=>by simp[Ie]at e
 | .sl _,_,_,_,_,e=>by simp[Ie]at e
end
end Go.Fw
end
section
namespace Go.Fw
def Ext(m m':Qi):Prop:=m'.length=m.length/\ ∀(i b:Nat),m[i]? =some (some b)->m'[i]? =some (some b)
theorem Ext.refl(m:Qi):Ext m m:=⟨rfl,fun _ _ h=>h⟩
theorem Ext.trans{m m' m'':Qi}(h:Ext m m')(k:Ext m' m''):Ext m m'':=⟨k.1.trans h.1,fun i b e=>k.2 i b (h.2 i b e)⟩
def qh(m:Qi):Prop:= ∀(i j b:Nat),m[i]? =some (some b)->m[j]? =some (some b)->i=j
theorem fU{m m':Qi}{i b:Nat}(e:m.put i b=some m'):Ext m m'/\m'[i]? =some (some b)/\(qh m->qh m'):=by
 unfold Qi.put at e;split at e
 ·rename_i h
  split at e
  ·cases e
  ·rename_i hc
   cases e;have Ha:=(AOS.1 h).1;have AXA:∀(k:Nat),m[k]?≠some (some b):=fun k hk=>hc (by
    grind)
   refine⟨⟨by simp,fun k c hk=> ?_⟩,by simp[Ha],fun hi j k c hj hk=> ?_⟩
   ·grind
   ·by_cases e1:j=i<;>by_cases e2:k=i
    ·omega
    ·grind
    ·grind
    ·rw[AVL (by omega)]at hj hk
     exact hi j k c hj hk
 all_goals grind[Ext.refl]
def Tz(m:Qi):List Nat->List Nat->Prop
 |[],[]=>True
 |i::is,b::bs=>m[i]? =some (some b)/\Tz m is bs
 |_,_=>False
theorem Tz.ext{m m':Qi}(h:Ext m m'):∀{is bs},Tz m is bs->Tz m' is bs
 |[],[],_=>trivial
 |_::_,_::_,k=>⟨h.2 _ _ k.1,Tz.ext h k.2⟩
theorem j_:∀{is bs:ABU} {m m':Qi},cf m is bs=some m'->Ext m m'/\Tz m' is bs/\(qh m->qh m')
 |[],[],m,m',e=>by simp only[cf,AON]at e;subst e;exact⟨Ext.refl _,trivial,fun h=>h⟩
 |i::is,b::bs,m,m',e=>by
  simp only[cf,AOc]at e;obtain⟨m1,e1,e2⟩:=e;obtain⟨a1,a2,a3⟩:=fU e1;obtain⟨b1,b2,b3⟩:=j_ e2;exact⟨a1.trans b1,⟨b1.2 _ _ a2,b2⟩,fun h=>b3 (a3 h)⟩
 |[],_::_,_,_,e=>by simp[cf]at e
 |_::_,[],_,_,e=>by simp[cf]at e
def Tx(N:Nat)(m:Qi):AP->AV->Prop
 | .ref i,x=> ∃b,(x= .ref b []\/(x= .nil/\b=N+i))/\m[i]? =some (some b)
 | .ptr i j,x=> ∃b,x= .I0 b j/\m[i]? =some (some b)
 | .fn f LO,x=> ∃bs,x= .fn f bs/\Tz m LO bs
 | .nil,x=>x= .nil
 | .l9 i sz,x=> ∃b k j,x= .ref b [⟨k,sz,j⟩]/\m[i]? =some (some b)
 |_,_=>True
theorem Tx.ext{N:Nat}{m m':Qi}(h:Ext m m'){p:AP}{x:AV}(k:Tx N m p x):Tx N m' p x:=by
 cases p with
 |ref i=>obtain⟨b,hx,k⟩:=k;exact⟨b,hx,h.2 _ _ k⟩
 |ptr i j=>obtain⟨b,rfl,k⟩:=k;exact⟨b,rfl,h.2 _ _ k⟩
 |fn f LO=>obtain⟨bs,rfl,k⟩:=k;exact⟨bs,rfl,k.ext h⟩
 |nil=>exact k
 |l9 i sz=>obtain⟨b,q,j,rfl,k⟩:=k;exact⟨b,q,j,rfl,h.2 _ _ k⟩
 |_=>trivial
theorem fa{N:Nat}{m m':Qi}{p:AP}{x:AV}(e:p.O2 N m x=some m'):Ext m m'/\Tx N m' p x/\(qh m->qh m'):=by
 cases p with
 |ref i=>
  cases x with
  |ref b q=>
   cases q with
   |nil=>
    obtain⟨a,b,c⟩:=fU (by simpa only[AP.O2]using e);exact⟨a,⟨_,.inl rfl,b⟩,c⟩
   |cons _ _=>simp[AP.O2]at e
  |nil=>
   obtain⟨a,b,c⟩:=fU (by simpa only[AP.O2]using e);exact⟨a,⟨_,.inr ⟨rfl,rfl⟩,b⟩,c⟩
  |_=>simp[AP.O2]at e
 |ptr i j=>
  cases x with
  |I0 b j' =>
   simp only[AP.O2]at e;split at e
   ·rename_i hj
    subst hj;obtain⟨a,b,c⟩:=fU e;exact⟨a,⟨_,rfl,b⟩,c⟩
   simp_all
  |_=>simp[AP.O2]at e
 |fn f LO=>
  cases x with
  |fn g bs=>
   simp only[AP.O2]at e;split at e
   ·rename_i hf
    subst hf;obtain⟨a,b,c⟩:=j_ e;exact⟨a,⟨_,rfl,b⟩,c⟩
   simp_all
  |_=>simp[AP.O2]at e
 |nil=>
  cases x with
  |nil=>simp only[AP.O2,AON]at e;subst e;exact⟨Ext.refl _,rfl,fun h=>h⟩
  |_=>simp[AP.O2]at e
 |l9 i sz=>
  cases x with
  |ref b q=>
   cases q with
   |nil=>simp[AP.O2]at e
   |cons s q=>
    cases q with
    |nil=>
     simp only[AP.O2]at e;split at e
     ·rename_i hs
      obtain⟨a,b,c⟩:=fU e;obtain⟨k,z,y⟩:=s;dsimp only at hs;subst hs;exact⟨a,⟨_,k,y,rfl,b⟩,c⟩
     simp_all
    |cons _ _=>simp[AP.O2]at e
  |_=>simp[AP.O2]at e
 |_=>
  have:m=m':=by grind[AP.O2]
  subst this;exact⟨Ext.refl _,trivial,fun h=>h⟩
theorem XZ{N:Nat}:∀{l:List AP} {xs:List AV} {m m':Qi},ZJ.O2 N m l xs=some m'->Ext m m'/\Cg (Tx N m') l xs/\(qh m->qh m')
 |[],[],m,m',e=>by simp only[ZJ.O2,AON]at e;subst e;exact⟨Ext.refl _,trivial,fun h=>h⟩
 |p::l,x::xs,m,m',e=>by
  simp only[ZJ.O2,AOc]at e;obtain⟨m1,e1,e2⟩:=e;obtain⟨a1,a2,a3⟩:=fa e1;obtain⟨b1,b2,b3⟩:=XZ e2;exact⟨a1.trans b1,⟨a2.ext b1,b2⟩,fun h=>b3 (a3 h)⟩
 |[],_::_,_,_,e=>by simp[ZJ.O2]at e
 |_::_,[],_,_,e=>by simp[ZJ.O2]at e
def jG(N:Nat)(m:Qi):AP ⊕ List AP->AV ⊕ List AV->Prop
 | .inl p,.inl x=>Tx N m p x
 | .inr p,.inr x=>Cg (Tx N m) p x
 |_,_=>False
theorem jG.ext{N:Nat}{m m':Qi}(h:Ext m m'):∀{p:AP ⊕ List AP} {x:AV ⊕ List AV},jG N m p x->jG N m' p x
 | .inl _,.inl _,k=>Tx.ext h k
 | .inr _,.inr _,k=>Cg.imp (fun _ _ k=>Tx.ext h k) k
theorem dG{N:Nat}:∀{l:List (AP ⊕ List AP)} {xs:List (AV ⊕ List AV)} {m m':Qi},aA.O2 N m l xs=some m'->Ext m m'/\Cg (jG N m') l xs/\(qh m->qh m')
 |[],[],m,m',e=>by simp only[aA.O2,AON]at e;subst e;exact⟨Ext.refl _,trivial,fun h=>h⟩
 | .inl p::l,.inl x::xs,m,m',e=>by
  simp only[aA.O2,AOc]at e;obtain⟨m1,e1,e2⟩:=e;obtain⟨a1,a2,a3⟩:=fa e1;obtain⟨b1,b2,b3⟩:=dG e2;exact⟨a1.trans b1,⟨Tx.ext b1 a2,b2⟩,fun h=>b3 (a3 h)⟩
 | .inr p::l,.inr x::xs,m,m',e=>by
  simp only[aA.O2,AOc]at e;obtain⟨m1,e1,e2⟩:=e;obtain⟨a1,a2,a3⟩:=XZ e1;obtain⟨b1,b2,b3⟩:=dG e2;exact⟨a1.trans b1,⟨Cg.imp (fun _ _ k=>Tx.ext b1 k) a2,b2⟩,fun h=>b3 (a3 h)⟩
 |[],_::_,_,_,e=>by simp[aA.O2]at e
 | .inl _::_,[],_,_,e=>by simp[aA.O2]at e
 | .inr _::_,[],_,_,e=>by simp[aA.O2]at e
 | .inl _::_,.inr _::_,_,_,e=>by simp[aA.O2]at e
 | .inr _::_,.inl _::_,_,_,e=>by simp[aA.O2]at e
def cQ(N:Nat)(m:Qi):XP->XV->Prop
 | .c p,.c x=>Tx N m p x
 | .agg l,.agg xs=>Cg (Tx N m) l xs
 | .row _,.agg _=>True
 | .NW l,.NW xs=>Cg (jG N m) l xs
 |_,_=>False
theorem cQ.ext{N:Nat}{m m':Qi}(h:Ext m m'):∀{p:XP} {x:XV},cQ N m p x->cQ N m' p x
 | .c _,.c _,k=>Tx.ext h k
 | .agg _,.agg _,k=>Cg.imp (fun _ _ k=>Tx.ext h k) k
 | .row _,.agg _,_=>trivial
 | .NW _,.NW _,k=>Cg.imp (fun _ _ k=>jG.ext h k) k
theorem w8{N:Nat}{m m':Qi}:∀{p:XP} {x:XV},p.O2 N m x=some m'->Ext m m'/\cQ N m' p x/\(qh m->qh m')
 | .c p,.c x,e=>fa (by grind[XP.O2])
 | .agg l,.agg xs,e=>XZ (by grind[XP.O2])
 | .row r,.agg xs,e=>by simp only[XP.O2,AON]at e;subst e;exact⟨Ext.refl _,trivial,fun h=>h⟩
 | .NW l,.NW xs,e=>dG (by grind[XP.O2])
 | .c _,.agg _,e=>by simp[XP.O2]at e
 | .c _,.NW _,e=>by simp[XP.O2]at e
 | .agg _,.c _,e=>by simp[XP.O2]at e
 | .agg _,.NW _,e=>by simp[XP.O2]at e
 | .row _,.c _,e=>by simp[XP.O2]at e
 | .row _,.NW _,e=>by simp[XP.O2]at e
 | .NW _,.c _,e=>by simp[XP.O2]at e
 | .NW _,.agg _,e=>by simp[XP.O2]at e
theorem fB{N:Nat}{tm:List XV}:∀{l:List (Nat×XP)} {m m':Qi},HU.O2 N tm m l=some m'->
  Ext m m'/\(∀q∈l,∃x,tm[q.1]? =some x/\cQ N m' q.2 x)/\(qh m->qh m')
 |[],m,m',e=>by grind[HU.O2,Option.some.injEq,Ext.refl]
 |(i,p)::l,m,m',e=>by
  simp only[HU.O2]at e;split at e
  ·rename_i x hx
   simp only[AOc]at e;obtain⟨m1,e1,e2⟩:=e;obtain⟨a1,a2,a3⟩:=w8 e1;obtain⟨b1,b2,b3⟩:=fB e2;refine⟨a1.trans b1,?_,fun h=>b3 (a3 h)⟩;intro q hq;rcases ASY.1 hq with rfl|hq
   all_goals grind[cQ.ext]
  simp_all
theorem XX{N:Nat}{bx:List Bx}:∀{l:List BP} {i:Nat} {m m':Qi},KM.O2 N bx i m l=some m'->
  Ext m m'/\(∀(k:Nat) q,l[k]? =some (.mem q)-> ∃b cs,m'[i+k]? =some (some b)/\bx[b]? =some (.mem cs)/\Cg (Tx N m') q cs)/\
   (∀(k:Nat) d r,l[k]? =some (.sl d r)-> ∃b,m'[i+k]? =some (some b))/\(qh m->qh m')
 |[],i,m,m',e=>by grind[KM.O2,Option.some.injEq,Ext.refl]
 | .mem q::l,i,m,m',e=>by
  simp only[KM.O2]at e;split at e
  ·rename_i b hb
   split at e
   ·rename_i cs xW
    simp only[AOc]at e;obtain⟨m1,e1,e2⟩:=e;obtain⟨a1,a2,a3⟩:=XZ e1;obtain⟨b1,b2,b4,b3⟩:=XX e2;refine⟨a1.trans b1,?_,?_,fun h=>b3 (a3 h)⟩
    ·intro k q' hk
     cases k with
     |zero=>cases hk;exact⟨b,cs,b1.2 _ _ (a1.2 _ _ hb),xW,Cg.imp (fun _ _ k=>Tx.ext b1 k) a2⟩
     |succ k=>
      grind
    grind
   simp_all
  simp_all
 | .sl d r::l,i,m,m',e=>by
  simp only[KM.O2]at e;split at e
  ·rename_i b hb
   obtain⟨b1,b2,b4,b3⟩:=XX e;refine⟨b1,?_,?_,b3⟩
   ·grind
   ·intro k d r hk
    cases k with
    |zero=>exact⟨b,b1.2 _ _ hb⟩
    |succ k=>
     grind
  simp_all
 | .gone::l,i,m,m',e=>by
  simp only[KM.O2]at e;obtain⟨b1,b2,b4,b3⟩:=XX e;grind
theorem Sx{bx bk:List Bx}{Jt:Nat->Nat}:∀{l:List BP} {m:Qi} {x:KM.V l},KM.get bx bk m l=some x->(KM.mk Jt l x).length=l.length/\
  ∀(k:Nat) p,l[k]? =some p-> ∃y:p.V,(KM.mk Jt l x)[k]? =some (p.mk Jt y)/\
   match p,y with
   | .mem q,y=> ∃b cs,m[k]? =some (some b)/\bx[b]? =some (.mem cs)/\ZJ.get bk q cs=some y
   | .sl d r,y=> ∃b d',m[k]? =some (some b)/\bx[b]? =some (.sl d' r y)/\1<=d/\d<=d'
   | .gone,_=>True
 |[],m,x,e=>⟨rfl,by simp⟩
 | .mem q::l,some b::m,x,e=>by
  simp only[KM.get]at e;split at e
  ·rename_i cs xW
   simp only[AOc,AOP]at e;obtain⟨a,e1,c,e2,rfl⟩:=e;obtain⟨h1,h2⟩:=Sx (Jt:=Jt) e2;refine⟨by simp[KM.mk,h1],fun k p hk=> ?_⟩;cases k with
   |zero=>cases hk;exact⟨a,rfl,b,cs,rfl,xW,e1⟩
   |succ k=>
    grind[KM.mk]
  simp_all
 | .sl d r::l,some b::m,x,e=>by
  simp only[KM.get]at e;split at e
  ·rename_i d' q rows hb
   split at e
   ·rename_i hd
    simp only[AOc,AOP]at e;obtain⟨a,e1,c,e2,rfl⟩:=e;obtain⟨e3,e4⟩:=Ij e1;subst e3;subst e4;obtain⟨h1,h2⟩:=Sx (Jt:=Jt) e2;refine⟨by simp[KM.mk,h1],fun k p hk=> ?_⟩;cases k with
    |zero=>cases hk;exact⟨rows,rfl,b,d',rfl,hb,hd.1,hd.2⟩
    |succ k=>
     grind[KM.mk]
   simp_all
  simp_all
 | .gone::l,o::m,x,e=>by
  have e':(KM.get bx bk m l).map (fun c=>((),c))=some x:=by grind[KM.get]
  simp only[AOP]at e';obtain⟨c,e2,rfl⟩:=e';obtain⟨h1,h2⟩:=Sx (Jt:=Jt) e2;refine⟨by simp[KM.mk,h1],fun k p hk=> ?_⟩;cases k with
  |zero=>cases hk;exact⟨(),rfl,trivial⟩
  |succ k=>
   grind[KM.mk]
 | .mem q::l,none::m,x,e=>by simp[KM.get]at e
 | .sl d r::l,none::m,x,e=>by simp[KM.get]at e
 | .mem _::_,[],x,e=>by simp[KM.get]at e
 | .sl _ _::_,[],x,e=>by simp[KM.get]at e
 | .gone::_,[],x,e=>by simp[KM.get]at e
theorem LW:∀{m:Qi} {bx:List Bx},(DB bx m).length=bx.length
 |[],_=>rfl
 |some b::m,bx=>by simp[DB,LW]
 |none::m,bx=>by simp[DB,LW]
theorem TV:∀{m:Qi} {bx vw:List Bx},Fg bx vw->Fg (DB bx m) vw
 |[],_,_,h=>h
 |none::m,bx,vw,h=>by simp only[DB];exact TV h
 |some b::m,bx,vw,h=>by
  simp only[DB];refine TV fun k B hk=> ?_
  by_cases e:k=b
  ·grind
  ·rw[AVL (by omega)]at hk
   exact h k B hk
theorem Xp:∀{m:Qi} {bx:List Bx} {b:Nat} {B:Bx},some b∈m->(DB bx m)[b]? =some B->B= .dead
 |some c::m,bx,b,B,h,e=>by
  simp only[DB]at e;by_cases hm:some b∈m
  ·exact Xp hm e
  ·have:c=b:=by
    simp_all
   subst this;have:∀{m:Qi} {bx:List Bx},bx[c]? =some .dead->some c∉m->(DB bx m)[c]? =some .dead:=by
    intro m
    induction m with
    |nil=>intro bx h _;exact h
    |cons o m ih=>
     intro bx h hn;cases o with
     |none=>grind[DB,List.mem_cons_of_mem]
     |some d=>
      grind[DB,List.mem_cons_of_mem,List.getElem?_set_ne]
   grind[List.getElem?_eq_some_iff,LW]
 |none::m,bx,b,B,h,e=>by
  simp only[DB]at e;exact Xp (by simp_all) e
theorem pz{E:Env}{w:World}{vw:List Bx}:∀{m:Qi} {bx:List Bx} {G:ABU},qh m->DQ E w vw bx G->
  ∃Gs:List ABU,Gs.length=m.length/\(∀(k b:Nat) B F,m[k]? =some (some b)->bx[b]? =some B->Gs[k]? =some F->sd E w vw b B F)/\
   DQ E w vw (DB bx m) (Gs.flatten++G)
 |[],bx,G,_,h=>⟨[],rfl,by simp,h⟩
 |none::m,bx,G,hi,h=>by
  obtain⟨Gs,h1,h2,h3⟩:=pz (m:=m) (fun i j b Du hj=>by
   have:=hi (i+1) (j+1) b (by simp_all) (by simp_all);omega) h
  refine⟨[]::Gs,by simp[h1],fun k b B F hk hB hF=> ?_,by grind[DB]⟩;grind
 |some b::m,bx,G,hi,h=>by
  have AIt:qh m:=fun i j b Du hj=>by
   have:=hi (i+1) (j+1) b (by simp_all) (by simp_all);omega
  cases e:bx[b]? with
  |none=>
   have Va:bx.set b .dead=bx:=List.set_eq_of_length_le (by simp_all);obtain⟨Gs,h1,h2,h3⟩:=pz (m:=m) AIt h;refine⟨[]::Gs,by simp[h1],fun k b' B F hk hB hF=> ?_,by grind[DB]⟩;grind
  |some B0=>
   obtain⟨F0,k1,k2⟩:=h.take e;obtain⟨Gs,h1,h2,h3⟩:=pz (m:=m) AIt k2;refine⟨F0::Gs,by simp[h1],fun k b' B F hk hB hF=> ?_,?_⟩
   ·cases k with
    |zero=>
     simp_all
    |succ k=>
     have ew:b'≠b:=fun hh=>by
      have:=hi 0 (k+1) b (by simp) (by simp_all);omega
     grind
   ·simp only[DB]
    refine h3.perm ?_
    grind
end Go.Fw
end
section
namespace Go.Fw
theorem sU{R:Nat->List Nat->List Nat->List Nat->Prop}:∀(Gs:List ABU) (o:Nat),(∀(k:Nat) G,Gs[k]? =some G-> ∃F W,G.Perm (F++W)/\R (o+k) G F W)->
  ∃Fs Ws:List ABU,Fs.length=Gs.length/\Ws.length=Gs.length/\Gs.flatten.Perm (Fs.flatten++Ws.flatten)/\
   ∀(k:Nat) G F W,Gs[k]? =some G->Fs[k]? =some F->Ws[k]? =some W->R (o+k) G F W
 |[],o,_=>⟨[],[],rfl,rfl,by simp,by simp⟩
 |G::Gs,o,h=>by
  obtain⟨F,W,hp,hr⟩:=h 0 G rfl;obtain⟨Fs,Ws,h1,h2,h3,h4⟩:=sU Gs (o+1) (fun k G hk=>by
   have:=h (k+1) G (by simp_all)
   rwa [show o+1+k=o+(k+1)by omega])
  refine⟨F::Fs,W::Ws,by simp[h1],by simp[h2],?_,fun k G' F' W' hG hF hW=> ?_⟩
  all_goals grind
def PD(E:Env)(w:World)(vw:List Bx)(Jt:Nat->Nat):(l:List (Nat×XP))->HU.V l->List Value->Prop
 |[],_,_=>True
 |(i,p)::l,x,vals=>(∃v,vals[i]? =some v/\XR E w vw (p.mk Jt x.1) v)/\PD E w vw Jt l x.2 vals
section
variable{E E1:Env} {w:World} {bx bk y7:List Bx} {Fk:List ABU} {m:Qi}
theorem Tz.map{f:Nat->Nat}(h:∀(i b:Nat),m[i]? =some (some b)->E1.Ia i=E.Ia b):∀{is bs:ABU},Tz m is bs->
  (is.map fun b=>Value.pointer (some ⟨E1.Ia b,0,none⟩))=bs.map fun b=>Value.pointer (some ⟨E.Ia b,0,none⟩)
 |[],[],_=>rfl
 |i::is,b::bs,k=>by simp[h i b k.1,Tz.map (f:=f) h k.2]
theorem Tz.lt:∀{is bs:ABU},Tz m is bs-> ∀i∈is,i<m.length
 |[],[],_,_,h=>by simp at h
 |i::is,b::bs,k,j,h=>by
  rcases ASY.1 h with rfl|h
  ·exact(AOS.1 k.1).1
  ·exact Tz.lt k.2 j h
structure AE_ (N:Nat) (E:Env) (w:World) (bx bk:List Bx) (Fk:List ABU) (m:Qi) (E1:Env) (y7:List Bx):Prop where
 within:Fg bk bx
 boxes:OG E w bx bk Fk
 st:∀c,E.S c->E.T c
 T:∀c,r_ E Fk c->E1.T c
 S:∀c,E.S c->E1.S c
 ids:∀(i b:Nat),m[i]? =some (some b)->E1.Ia i=E.Ia b/\E1.IZ i=E.IZ b
 len:m.length<=y7.length
 nil:∀(i:Nat) d r rows,y7[i]? =some (.sl d r rows)->E.IZ (N+i)= .slice none 0 0
 sl:∀(i:Nat) d r rows,i<m.length->y7[i]? =some (.sl d r rows)-> ∃b d',m[i]? =some (some b)/\bx[b]? =some (.sl d' r rows)
variable{N:Nat} (k:AE_ N E w bx bk Fk m E1 y7)
include k
theorem zZ{p:AP}{x:AV}{v:Value}(hv:VR E w bx x v)(ha:Tx N m p x){y:p.V}(e:p.get bk x=some y):VR E1 w y7 (p.mk id y) v:=by
 cases p with
 |v t=>
  simp only[AP.get]at e;split at e
  ·rename_i hs
   have hr:=Vr k.within k.boxes k.st hv e;refine⟨hs,?_⟩;cases t with
   |int _=>grind[Rd]
   |bool=>grind[Rd]
   |str=>grind[Rd]
   |_=>simp[Ty.scalar]at hs
  simp_all
 |sl s r=>
  cases s with
  |false=>
   simp only[AP.get]at e;have hr:=Vr k.within k.boxes k.st hv e;simp only[AP.mk,VR];exact GD k.T (fun _ _=>rfl) (by omega)
  |true=>
   simp only[AP.get]at e;split at e
   ·rename_i q z
    obtain⟨e1,e2⟩:=Ij e;subst e1;subst e2;simp only[AP.mk,VR]at hv|-;exact GD k.S (fun _ _=>rfl) (by simp_all)
   ·cases e
    simp only[AP.mk,VR]at hv|-;subst hv;simp only[Rd];simp_all
   simp_all
 |nil=>
  obtain rfl:=ha;exact hv
 |ref i=>
  obtain⟨b,hx,hm⟩:=ha;have hi:=(AOS.1 hm).1;simp only[AP.mk,id,VR];rcases hx with rfl|⟨rfl,rfl⟩
  ·have hsl:=hv.1
   refine⟨hsl,?_⟩;cases e1:y7[i]? with
   |none=>simp at e1;have:=k.len;omega
   |some B=>
    cases B with
    |sl d r rows=>
     obtain⟨b',d',h1,h2⟩:=k.sl i d r rows hi e1;rw[hm]at h1;cases h1;simp only[VR,h2]at hv
     replace hv:=hv.2
     refine⟨by simp[DT],⟨_,rfl⟩,?_⟩;rw[(k.ids i b hm).2];simp_all
    |_=>trivial
  ·have Zh:v= .slice none 0 0:=hv
   subst Zh;refine⟨rfl,?_⟩;cases e1:y7[i]? with
   |none=>simp at e1;have:=k.len;omega
   |some B=>
    cases B with
    |sl d r rows=>
     refine⟨by simp[DT],⟨_,rfl⟩,?_⟩;rw[(k.ids i _ hm).2,k.nil i d r rows e1,DL]
    |_=>trivial
 |ptr i j=>
  obtain⟨b,rfl,hm⟩:=ha;have hi:=(AOS.1 hm).1;exact⟨AVS hi k.len,by rw[hv.2,id,(k.ids i b hm).1]⟩
 |pS r=>
  simp only[AP.get]at e;split at e
  ·rename_i s q z
   obtain⟨e1,e2⟩:=Ij e;subst e1;subst e2;simp only[AP.mk,VR]at hv|-;obtain⟨bb,o,cs,h1,h2,h3,h4,h5⟩:=hv;have ARu:∀c,(if s=true then E.S else E.T) c->E1.T c:=by
    intro c hc;cases s
    ·exact k.T c (.inl (by simp_all))
    ·exact k.T c (.inl (k.st c (by simp_all)))
   exact⟨bb,o,cs,h1,by simp_all,h3,h4,by simpa using GD ARu (fun _ _=>rfl) h5⟩
  ·rename_i b
   split at e
   ·rename_i cs hb
    obtain⟨F,⟨hF,arr,ty,fr,ha,hu,Wy⟩,VP⟩:=k.boxes.get hb;have ZH:=iu k.within k.boxes k.st Wy e;simp only[AP.mk,VR];refine⟨E.Ia b,0,arr.toList,by simpa using hv.2,?_,nQ ZH,?_,by simpa using GD k.T (fun _ _=>rfl) ZH⟩
    ·simp only[AO5,ATF]
     exact k.T _ (.inr (VP _ (by simp_all)))
    ·intro j u hj
     simp only[AVt,World.cell?,ha,AVb,AO5,ATF];simp_all
   simp_all
  ·rename_i b p i sz
   split at e
   ·rename_i d q rows hb
    simp only[AOc]at e;obtain⟨⟨q',ys⟩,e1,e2⟩:=e;split at e2
    case isFalse=>cases e2
    rename_i QW;obtain⟨e3,e4⟩:=Ij e2;dsimp only at e3;subst e3;subst e4;simp only[VR,Zz k.within hb]at hv;obtain⟨_,hp,q1,ys1,bb,o,len,cap,hg,hi,hh,rfl⟩:=hv;rw[hg]at e1;simp only[AON,ARQ]at e1;obtain⟨e5,e6⟩:=e1;subst e5;obtain rfl:=AU_ e6;have ZH:=eg k.within k.boxes k.st hb hp hg hh;simp only[Rd]at ZH;obtain⟨a',cap',ee,_,ZH⟩:=ZH;simp only[ATj,Value.slice.injEq,AVW]at ee;obtain⟨rfl,rfl,rfl⟩:=ee;rcases ZH with ZH|⟨b1,o1,e7,hb1,ZH⟩
    ·omega
    ·cases e7
     obtain⟨cs,c1,c2,c3⟩:=ZH i _ (SV hi);simp only[AP.mk,VR];refine⟨bb,o+i*q1.n,cs,by rw[QW],by simpa using k.T _ hb1,c1,c2,by simpa using GD k.T (fun _ _=>rfl) c3⟩
   simp_all
  simp_all
 |fn f LO=>
  obtain⟨bs,rfl,hc⟩:=ha;refine⟨fun i hi=>AVS (hc.lt i (by simp_all)) k.len,?_⟩;rw[hv.2];simp only[AP.mk,List.map_id];rw[Tz.map (f:=id) (fun i b h=>(k.ids i b h).1) hc]
 |sf f rs=>
  simp only[AP.get]at e;split at e
  ·rename_i g rows
   split at e
   case isFalse=>cases e
   rename_i hfg;subst hfg;obtain⟨ps,eL,aP⟩:=hv;refine⟨ps,eL,?_⟩;clear ha eL
   induction rs generalizing rows ps with
   |nil=>
    cases rows with
    |nil=>
     cases ps with
     |nil=>trivial
     |cons _ _=>exact aP.elim
    |cons _ _=>simp[ar.qR]at e
   |cons r rs ih=>
    cases rows with
    |nil=>simp[ar.qR]at e
    |cons q rows=>
     cases ps with
     |nil=>exact aP.elim
     |cons p ps=>
      simp only[ar.qR,AOc,AOP]at e;obtain⟨x1,e1,x2,e2,rfl⟩:=e;obtain⟨q1,q2⟩:=q;obtain⟨e3,e4⟩:=Ij e1;dsimp only at e3;subst e3;subst e4;obtain⟨⟨bb,o,cs,h1,h2,h3,h4,h5⟩,aP⟩:=aP;exact⟨⟨bb,o,cs,h1,k.T bb (.inl h2),h3,h4,GD (fun b hb=>k.T b (.inl hb)) (fun _ _=>rfl) h5⟩,ih rows e2 ps aP⟩
  ·rename_i g bs
   split at e
   case isFalse=>cases e
   rename_i hfg;subst hfg;obtain⟨eL,aP⟩:=hv;refine⟨bs.map fun b=>Value.pointer (some ⟨E.Ia b,0,none⟩),aP,?_⟩;clear ha eL aP
   induction rs generalizing bs with
   |nil=>
    cases bs with
    |nil=>trivial
    |cons _ _=>simp[ar.rr]at e
   |cons r rs ih=>
    cases bs with
    |nil=>simp[ar.rr]at e
    |cons b bs=>
     simp only[ar.rr,AOc,AOP]at e;obtain⟨x1,e1,x2,e2,rfl⟩:=e;split at e1
     case h_2=>cases e1
     rename_i cs hb;obtain⟨F,⟨hF,arr,ty,fr,ha,hu,Wy⟩,VP⟩:=k.boxes.get hb;have ZH:=iu k.within k.boxes k.st Wy e1;refine⟨⟨E.Ia b,0,arr.toList,rfl,k.T _ (.inr (VP _ (by simp_all))),nQ ZH,?_,GD k.T (fun _ _=>rfl) ZH⟩,ih bs e2⟩;intro j u hj;simp only[AVt,World.cell?,ha,AVb,AO5,ATF];simp_all
  simp_all
 |any=>trivial
 |l9 i sz=>
  obtain⟨b,q,j,rfl,hm⟩:=ha;have hi:=(AOS.1 hm).1;simp only[AP.get,AON]at e;subst e;simp only[AP.mk,id,VR];have hsl:=hv.1;refine⟨hsl,?_⟩;cases e1:y7[i]? with
  |none=>simp at e1;have:=k.len;omega
  |some B=>
   cases B with
   |sl d r rows=>
    obtain⟨b',d',h1,h2⟩:=k.sl i d r rows hi e1;rw[hm]at h1;cases h1;simp only[VR,h2]at hv
    replace hv:=hv.2
    refine⟨hv.1,hv.2.1,?_⟩;rw[(k.ids i b hm).2];simp_all
   |_=>trivial
theorem pv:∀{l:List AP} {xs:List AV} {vs:List Value},kM E w bx xs vs->Cg (Tx N m) l xs-> ∀{y:ZJ.V l},ZJ.get bk l xs=some y->kM E1 w y7 (ZJ.mk id l y) vs
 |[],[],[],_,_,_,_=>trivial
 |p::l,x::xs,v::vs,hv,ha,y,e=>by
  simp only[ZJ.get,AOc,AOP]at e;obtain⟨a,e1,b,e2,rfl⟩:=e;exact⟨zZ k hv.1 ha.1 e1,pv hv.2 ha.2 e2⟩
 |[],[],_::_,hv,_,_,_=>hv.elim
 |_::_,_::_,[],hv,_,_,_=>hv.elim
 |[],_::_,_,_,ha,_,_=>ha.elim
 |_::_,[],_,_,ha,_,_=>ha.elim
theorem vj:∀{l:List (AP ⊕ List AP)} {xs:List (AV ⊕ List AV)} {vs:List Value},Cg (TR E w bx) xs vs->Cg (jG N m) l xs-> ∀{y:aA.V l},aA.get bk l xs=some y->
  Cg (TR E1 w y7) (aA.mk id l y) vs
 |[],[],[],_,_,_,_=>trivial
 | .inl p::l,.inl x::xs,v::vs,hv,ha,y,e=>by
  simp only[aA.get,AOc,AOP]at e;obtain⟨a,e1,b,e2,rfl⟩:=e;exact⟨zZ k hv.1 ha.1 e1,vj hv.2 ha.2 e2⟩
 | .inr p::l,.inr x::xs,v::vs,hv,ha,y,e=>by
  simp only[aA.get,AOc,AOP]at e;obtain⟨a,e1,b,e2,rfl⟩:=e;obtain⟨⟨us,hu,hus⟩,h2⟩:=hv;exact⟨⟨us,hu,pv k hus ha.1 e1⟩,vj h2 ha.2 e2⟩
 | .inl _::_,.inr _::_,_,_,ha,_,_=>ha.1.elim
 | .inr _::_,.inl _::_,_,_,ha,_,_=>ha.1.elim
 |[],[],_::_,hv,_,_,_=>hv.elim
 |_::_,_::_,[],hv,_,_,_=>hv.elim
 |[],_::_,_,_,ha,_,_=>ha.elim
 |_::_,[],_,_,ha,_,_=>ha.elim
theorem AUo{p:XP}{x:XV}{v:Value}(hv:XR E w bx x v)(ha:cQ N m p x){y:p.V}(e:p.get bk x=some y):XR E1 w y7 (p.mk id y) v:=by
 cases p with
 |c p=>cases x with
  |c x=>exact zZ k hv ha (by grind[XP.get])
  |_=>exact ha.elim
 |agg l=>cases x with
  |agg xs=>
   obtain⟨vs,rfl,Wy⟩:=hv;exact⟨vs,rfl,pv k Wy ha (by grind[XP.get])⟩
  |_=>exact ha.elim
 |row r=>cases x with
  |agg xs=>
   obtain⟨vs,rfl,Wy⟩:=hv;exact⟨vs,rfl,kU k.within k.boxes k.st k.T Wy (by grind[XP.get])⟩
  |_=>exact ha.elim
 |NW l=>cases x with
  |NW xs=>
   obtain⟨vs,rfl,Wy⟩:=hv;exact⟨vs,rfl,vj k Wy ha (by grind[XP.get])⟩
  |_=>exact ha.elim
theorem uL{tm:List XV}{vals:List Value}(htm:Cg (XR E w bx) tm vals):∀{l:List (Nat×XP)},(∀q∈l,∃x,tm[q.1]? =some x/\cQ N m q.2 x)-> ∀{y:HU.V l},HU.get bk tm l=some y->
  PD E1 w y7 id l y vals
 |[],_,_,_=>trivial
 |(i,p)::l,ha,y,e=>by
  obtain⟨x,hx,hax⟩:=ha (i,p) (by simp);simp only[HU.get,hx,AOc,AOP]at e;obtain⟨a,e1,b,e2,rfl⟩:=e;obtain⟨v,hv,hr⟩:=htm.get hx;exact⟨⟨v,hv,AUo k hr hax e1⟩,uL htm (fun q hq=>ha q (by simp[hq])) e2⟩
end
structure wL (E:Env) (w:World) (bx:List Bx) (m:Qi) (s:BI) (x:s.V) (vals:List Value) (E1:Env):Prop where
 boxes:DQ E1 w (KM.mk id s.HO x.2) (KM.mk id s.HO x.2) []
 EH:PD E1 w (KM.mk id s.HO x.2) id s.EH x.1 vals
 ids:∀(i b:Nat),m[i]? =some (some b)->E1.Ia i=E.Ia b/\E1.IZ i=E.IZ b
 inj:qh m
 len:m.length=s.HO.length
 S:∀c,E.S c->E1.S c
 Sof:∀c,E1.S c->E.S c\/ ¬E.T c
 T:∀c,E.T c->E1.T c
 rest:∃Fk,OG E w bx (DB bx m) Fk/\Fk.flatten.Nodup/\(∀c∈Fk.flatten,¬E.T c/\ ¬E1.S c/\c<w.heap.size/\E1.T c)/\(∀c,E1.T c->E.T c\/E1.S c\/c∈Fk.flatten)
theorem m_{E:Env}{w:World}{bx:List Bx}{tm:List XV}{vals:List Value}(hB:DQ E w bx bx [])(htm:Cg (XR E w bx) tm vals){s:BI}{m0 m:Qi}{x:s.V}
  {N:Nat} (zm:∀(i:Nat) d r,s.HO[i]? =some (.sl d r)->E.IZ (N+i)= .slice none 0 0) (hlen:m0.length=s.HO.length) (AIt:qh m0) (e:s.fit N m0 tm bx=some (x,m)):Ext m0 m/\ ∃E1,wL E w bx m s x vals E1:=by
 simp only[BI.fit,AOc,AOP]at e;obtain⟨m1,e1,m2,e2,a,e3,c,e4,e5⟩:=e;cases e5;obtain⟨a1,a2,a3⟩:=fB e1;obtain⟨b1,b2,b4,b3⟩:=XX e2;have hi:qh m:=b3 (a3 AIt);have y8:m.length=s.HO.length:=by rw[b1.1,a1.1,hlen]
 refine⟨a1.trans b1,?_⟩;obtain⟨Gs,g1,g2,g3⟩:=pz hi hB;obtain⟨q1,q2⟩:=Sx (Jt:=id) e4;have st:=hB.st
 let R:Nat->List Nat->List Nat->List Nat->Prop:=fun k G F W=>
  match s.HO[k]? with
  |some (.sl d r)=> ∀(b d':Nat) (rows:List r.D),m[k]? =some (some b)->bx[b]? =some (.sl d' r rows)->Ow w (fun c=>E.S c\/c∈W) d (.sl r) [E.IZ b] rows F
  |some (.mem q)=>F=G/\W=[]
  |_=>F=[]/\W=G
 have ASl:∀(k:Nat) G,Gs[k]? =some G-> ∃F W,G.Perm (F++W)/\R (0+k) G F W:=by
  intro k G hG;rw[AVt];have hk:k<s.HO.length:=by
   grind
  have hp:s.HO[k]? =some s.HO[k]:=AOM hk;cases hb:s.HO[k]with
  |mem q=>exact⟨G,[],by simp,by grind⟩
  |gone=>exact⟨[],G,by simp,by grind⟩
  |sl d r=>
   obtain⟨y,y1,b,d',y2,y3,y4,y5⟩:=q2 k _ (hp.trans (by rw[hb]));obtain⟨_,ho⟩:=g2 k b _ G y2 y3 hG;grind[Ki]
 obtain⟨Fs,Ws,f1,f2,f3,f4⟩:=sU Gs 0 ASl;obtain⟨Fk,k1,k2⟩:=g3;simp only[AQO]at k2;have cw:Sep E w (Fk.flatten++(Fs.flatten++Ws.flatten)):=k2.perm (AZL _ f3)
 let E1:Env:={
   Ia:=fun i=>match m[i]? with|some (some b)=>E.Ia b|_=>0
   IZ:=fun i=>match m[i]? with|some (some b)=>E.IZ b|_=> .nilFunc
   S:=fun c=>E.S c\/c∈Ws.flatten
   T:=fun c=>E.T c\/c∈Ws.flatten\/c∈Fk.flatten }
 have AHZ:∀(i b:Nat),m[i]? =some (some b)->E1.Ia i=E.Ia b/\E1.IZ i=E.IZ b:=fun i b h=>by grind
 have fe:AE_ N E w bx (DB bx m) Fk m E1 (KM.mk id s.HO c):={
  within:=TV (Fg.refl bx)
  boxes:=k1
  st:=st
  T:=fun d hd=>hd.elim .inl fun h=> .inr (.inr h)
  S:=fun d hd=> .inl hd
  ids:=AHZ
  len:=by omega
  nil:=fun i d r rows e=>by
   have hk:i<s.HO.length:=by
    grind
   obtain⟨y,y1,_⟩:=q2 i _ (AOM hk);have hp:=AOM hk;rw[e]at y1
   generalize s.HO[i]=P at y y1 hp
   cases P with
   |mem q=>cases y1
   |gone=>cases y1
   |sl d0 r0=>grind
  sl:=fun i d r rows hi e=>by
   have hk:i<s.HO.length:=by omega
   obtain⟨y,y1,y2⟩:=q2 i _ (AOM hk);rw[e]at y1
   generalize s.HO[i]=P at y y1 y2
   cases P with
   |mem q=>cases y1
   |gone=>cases y1
   |sl d0 r0=>
    simp only[BP.mk,AON,Bx.sl.injEq]at y1;grind }
 have nd:=cw.nodup;have AHY:∀c∈Fs.flatten,¬E1.T c:=by
  intro d hd h;rcases h with h|h|h
  ·exact cw.free d (by simp[hd]) h
  all_goals grind
 have ARB:PD E1 w (KM.mk id s.HO c) id s.EH a vals:=uL fe htm (fun q hq=>let⟨x,h1,h2⟩:=a2 q hq;⟨x,h1,cQ.ext b1 h2⟩) e3;refine⟨E1,wL.mk ?_ ARB AHZ hi y8 (fun d hd=> .inl hd) ?_ (fun d hd=> .inl hd) ⟨Fk,k1,(ARZ.1 nd).1,fun d hd=>⟨cw.free d (by simp[hd]),?_,cw.lt d (by simp[hd]),.inr (.inr hd)⟩,?_⟩⟩
 ·refine⟨Fs,⟨by simp_all,fun k B F hk hF=> ?_⟩,?_⟩
  ·have hkl:k<s.HO.length:=by
    grind
   have hp:s.HO[k]? =some s.HO[k]:=AOM hkl;obtain⟨y,y1,y2⟩:=q2 k _ hp;rw[hk]at y1;cases y1;have hG:Gs[k]? =some (Gs[k]'(by omega)):=AOM _;have hW:Ws[k]? =some (Ws[k]'(by omega)):=AOM _;have hr:=f4 k _ F _ hG hF hW;rw[AVt]at hr;have AVw:∀d∈Ws[k]'(by omega),d∈Ws.flatten:=fun d hd=>AVK.2 ⟨_,ASU hW,hd⟩
   generalize Ahz:s.HO[k]=P at y y2 hp
   have AWq:=fun q=>b2 k q
   simp only[R,hp]at hr;cases P with
   |mem q=>
    obtain⟨b,cs,z1,z2,z3⟩:=y2;obtain⟨rfl,hW0⟩:=hr;obtain⟨hFe,arr,ty,fr,h1,h2,h3⟩:=g2 k b _ _ z1 z2 hG;obtain⟨b',eY,t1,t2,t3⟩:=AWq q hp;rw[AVt,z1]at t1;cases t1;rw[z2]at t2;cases t2;refine⟨by simp_all,arr,ty,fr,by simp_all,h2,pv fe h3 t3 z3⟩
   |sl d r=>
    obtain⟨b,d',z1,z2,z3,z4⟩:=y2;have:=hr b d' y z1 z2;refine⟨z3,?_⟩;rw[(AHZ k b z1).2];exact En (fun d hd=>hd.elim .inl fun h=> .inr (AVw d h)) (fun _ _=>rfl) (fun _ _=>rfl) this
   |gone=>exact hr.1
  ·simp only[AQO]
   refine⟨(ARZ.1 (ARZ.1 nd).2.1).1,AHY,fun d hd=>cw.lt d (by simp[hd]),fun d hd=>hd.elim (fun h=> .inl (st d h)) (fun h=> .inr (.inl h)),fun d hd=> ?_⟩;rcases hd with hd|hd|hd
   ·exact cw.eT d hd
   ·exact cw.lt d (by simp[hd])
   ·exact cw.lt d (by simp[hd])
 ·intro d hd
  exact hd.elim .inl fun h=> .inr (cw.free d (by simp[h]))
 ·intro h
  rcases h with h|h
  ·exact cw.free d (by simp[hd]) (st d h)
  grind
 grind
end Go.Fw
end
section
namespace Go.Fw
def zv:Ty->Value
 | .int k=> .int k 0
 | .bool=> .bool false
 | .str=> .string ⟨#[]⟩
 |_=> .slice none 0 0
def E8:Ty->List Value
 | .cons c r=>zv c::E8 r
 | .unit=>[]
 |t=>[zv t]
def Ty.cell:Ty->Bool
 | .unit| .cons _ _=>false
 |_=>true
def Ty.wS:Ty->Bool
 | .cons c r=>c.cell&&r.wS
 |_=>true
def eqZ:Value->Value->Bool
 | .int k n,.int k' n' =>decide (k=k')&&decide (n=n')
 | .bool a,.bool b=>decide (a=b)
 | .string a,.string b=>decide (a.data.toList=[])&&decide (b.data.toList=[])
 | .slice none a b,.slice none c d=>decide (a=c)&&decide (b=d)
 |_,_=>false
theorem AUR{a b:Value}(h:eqZ a b=true):a=b:=by
 unfold eqZ at h;split at h
 ·simp_all
 ·simp_all
 ·rename_i a b
  simp at h;obtain⟨h1,h2⟩:=h;cases a;cases b;simp_all
 all_goals simp_all
def ADD:List Value->List Value->Bool
 |[],[]=>true
 |a::l,b::m=>eqZ a b&&ADD l m
 |_,_=>false
theorem ABk:∀{l m:List Value},ADD l m=true->l=m
 |[],[],_=>rfl
 |a::l,b::m,h=>by
  simp only[ADD,AOw]at h;rw[AUR h.1,ABk h.2]
 |[],_::_,h=>by simp[ADD]at h
 |_::_,[],h=>by simp[ADD]at h
def jn(P:Program)(t:Nat):TD->Prop
 | .int k=>P.underlying t=some (.int k)
 | .bool=>P.underlying t=some .bool
 | .str=>P.underlying t=some .string
 | .sl e=>P.underlying t=some (.slice e)
 | .ptr e=>P.underlying t=some (.pointer e)
 | .st fs=> ∃fields,P.underlying t=some (.struct fields)/\fields.toList.map (fun f=>(f.offset,f.type))=fs/\(∀f∈fields.toList,f.name≠ "_" /\ ∃i,P.info? f.type=some i/\i.size≠0)/\
  P.stoodInHeld t=false/\P.eqGuardType P.depth t=false
 | .other=> ∃d,P.underlying t=some d/\d.isRow=false
structure AYu (P:Program) (T:KS) (t:Nat) (ti:TI):Prop where
 info:∃i,P.info? t=some i/\i.size=ti.size/\i.bytes=ti.bytes/\(∀r,ti.row=some r->r.wS=true/\ ∃z,i.zero=some z/\z.cells.toList=E8 r)
 und:jn P t ti.desc
def FE(P:Program)(T:KS):Prop:= ∀t ti,T.get t=some ti->AYu P T t ti
def vS(P:Program)(T:KS)(t:Nat)(ti:TI):Bool:=
 (match P.info? t with
  |some i=>decide (i.size=ti.size)&&decide (i.bytes=ti.bytes)&&(match ti.row with
   |some r=>r.wS&&(match i.zero with
    |some z=>ADD z.cells.toList (E8 r)
    |none=>false)
   |none=>true)
  |none=>false)&&
 (match ti.desc,P.underlying t with
  | .int k,some (.int k')=>decide (k=k')
  | .bool,some .bool=>true
  | .str,some .string=>true
  | .sl e,some (.slice e')=>decide (e=e')
  | .ptr e,some (.pointer e')=>decide (e=e')
  | .st fs,some (.struct fields)=>decide (fields.toList.map (fun f=>(f.offset,f.type))=fs)&&
    fields.toList.all (fun f=>decide (f.name≠ "_")&&(match P.info? f.type with|some i=>decide (i.size≠0)|none=>false))&&
    !P.stoodInHeld t&& !P.eqGuardType P.depth t
  | .other,some d=> !d.isRow
  |_,_=>false)
theorem vV{P:Program}{T:KS}{t:Nat}{ti:TI}(h:vS P T t ti=true):AYu P T t ti:=by
 unfold vS at h;rw[AOw]at h;obtain⟨h1,h2⟩:=h;constructor
 ·split at h1
  ·rename_i i hi
   simp only[AOw,APo]at h1;refine⟨i,hi,h1.1.1,h1.1.2,fun r hr=> ?_⟩;obtain⟨_,h3⟩:=h1;rw[hr]at h3;dsimp only at h3;rw[AOw]at h3;grind[ABk]
  simp_all
 ·split at h2
  ·grind[jn]
  ·grind[jn]
  ·grind[jn]
  ·grind[jn]
  ·grind[jn]
  ·rename_i fs fields hd hu
   simp only[hd,jn];grind
  all_goals grind[jn]
def AGB(P:Program)(T:KS):Bool:=T.all fun q=>vS P T q.1 q.2
theorem KS.get_mem:∀{T:KS} {t:Nat} {ti:TI},T.get t=some ti->(t,ti)∈T
 |(u,i)::l,t,ti,h=>by
  simp only[KS.get]at h;split at h
  ·rename_i e;cases h;subst e;simp
  ·exact AZ1 _ (KS.get_mem h)
 |[],_,_,h=>by simp[KS.get]at h
theorem qT{P:Program}{T:KS}(h:AGB P T=true):FE P T:=fun t ti e=>
 vV (by simpa using AVk.1 h (t,ti) (KS.get_mem e))
section
variable{P:Program} {T:KS} (hT:FE P T)
include hT
theorem FE.size{t:Nat}{ti:TI}(e:T.get t=some ti):(P.info? t).map (·.size)=some ti.size:=by
 obtain⟨i,h1,h2,_⟩:=(hT t ti e).info;simp_all
theorem FE.sizeOf{t:Nat}{ti:TI}(e:T.get t=some ti)(w:World):(Go.sizeOf t).run P w= .ok ti.size w:=by
 obtain⟨i,h1,h2,_⟩:=(hT t ti e).info;simp[Go.sizeOf,typeInfo,h1,h2]
omit hT in
theorem Bh{t:Nat}{d:TypeDesc}(h:P.underlying t=some d)(w:World):(Go.underlying t).run P w= .ok d w:=by
 simp[Go.underlying,h]
theorem FE.isAgg{t:Nat}{ti:TI}(e:T.get t=some ti)(w:World):(Go.isAgg t).run P w= .ok ti.desc.agg w:=by
 have hu:=(hT t ti e).und;unfold Go.isAgg;cases hd:ti.desc<;>rw[hd]at hu<;>simp only[jn]at hu
 case st fs=>
  obtain⟨fields,hu,_⟩:=hu;simp[Bh hu,TD.agg]
 case other=>
  obtain⟨d,hu,hd⟩:=hu;rw[Sem.run_bind,Bh hu];cases d<;>simp_all[TypeDesc.isRow,TD.agg]
 all_goals simp[Bh hu,TD.agg]
end
end Go.Fw
end
section
namespace Go.Fw
def Ma{Y:Type}(P:Program)(o:Oper)(E:Env)(σ:St)(a:Act)(w:World)(k:K Y)(y:Y):Prop:=
 ∃v w' E' x σ',((execOp a.eval o).run P w= .ok (.value v) w'\/((execOp a.eval o).run P w= .ok .skip w'/\v=undef))/\Rel E' σ' a w'/\XR E' w' σ'.bx x v/\Sk (Ky (fun _=>none) σ o.op) E σ.bx w E' σ'.bx w'/\
  σ'.tm.length=σ.tm.length/\k x σ' =some y
section
variable{Y:Type} {P:Program} {T:KS} {o:Oper} {E:Env} {σ:St} {a:Act} {w:World} {k:K Y} {y:Y}
theorem Ma.same(h:Rel E σ a w){v:Value}{x:XV}(hr:(execOp a.eval o).run P w= .ok (.value v) w)(hx:XR E w σ.bx x v)(hk:k x σ=some y):Ma P o E σ a w k y:=
 ⟨v,w,E,x,σ,.inl hr,h,hx,Sk.refl _ E σ.bx w,rfl,hk⟩
theorem dM{vw:List Bx}{κ:IntKind}{n:Int}{v:Value}(h:VR E w vw (.v (.int κ) n) v):v= .int κ n:=by
 have:=h.2;grind[Rd]
theorem Tf{vw:List Bx}{b:Bool}{v:Value}(h:VR E w vw (.v .bool b) v):v= .bool b:=by
 have:=h.2;grind[Rd]
theorem Yh{vw:List Bx}{s:ACH}{v:Value}(h:VR E w vw (.v .str s) v):v= .string ⟨s.toArray⟩:=by
 have:=h.2;grind[Rd]
theorem VR.int{vw:List Bx}(κ:IntKind)(n:Int):VR E w vw (.v (.int κ) n) (.int κ n):=⟨rfl,by rfl⟩
theorem VR.bool{vw:List Bx}(b:Bool):VR E w vw (.v .bool b) (.bool b):=⟨rfl,by rfl⟩
theorem VR.str{vw:List Bx}(s:ACH):VR E w vw (.v .str s) (.string ⟨s.toArray⟩):=⟨rfl,by rfl⟩
theorem Xl(s:ACH):ByteArray.toList ⟨s.toArray⟩=s:=by
 simp_all
theorem vR(a b:ACH):(⟨a.toArray⟩:ByteArray)++⟨b.toArray⟩=⟨(a++b).toArray⟩:=by
 rfl
theorem yS(op:BinOp)(t:TypeId)(x y:Operand)(u v:Value)(hu:∀l,u≠ .agg l)(hn:u≠ .nilIface)(w:World):(eqGuard op t x y u v).run P w= .ok () w:=by
 unfold eqGuard;simp_all
theorem yI{op:BinOp}{κ:IntKind}{m n:Int}{k:AV->Option Y}{y:Y}(e:iG op κ m n k=some y)(t:TypeId)(w:World):
  ∃z v,k z=some y/\(binOp op t (.int κ m) (.int κ n)).run P w= .ok v w/\ ∀E vw,VR E w vw z v:=by
 cases op with
 |add=>exact⟨_,.int κ (κ.wrap (m+n)),e,by simp[binOp,Op.intArith],fun _ _=>VR.int _ _⟩
 |sub=>exact⟨_,.int κ (κ.wrap (m-n)),e,by simp[binOp,Op.intArith],fun _ _=>VR.int _ _⟩
 |mul=>exact⟨_,.int κ (κ.wrap (m*n)),e,by simp[binOp,Op.intArith],fun _ _=>VR.int _ _⟩
 |and=>exact⟨_,.int κ (κ.wrap (BitVec.ofInt κ.bits m &&& BitVec.ofInt κ.bits n).toNat),e,by simp[binOp,Op.intBits],fun _ _=>VR.int _ _⟩
 |or=>exact⟨_,.int κ (κ.wrap (BitVec.ofInt κ.bits m ||| BitVec.ofInt κ.bits n).toNat),e,by simp[binOp,Op.intBits],fun _ _=>VR.int _ _⟩
 |xor=>exact⟨_,.int κ (κ.wrap (BitVec.ofInt κ.bits m ^^^ BitVec.ofInt κ.bits n).toNat),e,by simp[binOp,Op.intBits],fun _ _=>VR.int _ _⟩
 |andNot=>exact⟨_,.int κ (κ.wrap (BitVec.ofInt κ.bits m &&& ~~~BitVec.ofInt κ.bits n).toNat),e,by simp[binOp,Op.intBits],fun _ _=>VR.int _ _⟩
 |eql=>exact⟨_,.bool (m==n),e,by simp[binOp,Op.intCmp],fun _ _=>VR.bool _⟩
 |neq=>exact⟨_,.bool (m !=n),e,by simp[binOp,Op.intCmp],fun _ _=>VR.bool _⟩
 |lss=>exact⟨_,.bool (decide (m<n)),e,by simp[binOp,Op.intCmp],fun _ _=>VR.bool _⟩
 |leq=>exact⟨_,.bool (decide (m<=n)),e,by simp[binOp,Op.intCmp],fun _ _=>VR.bool _⟩
 |gtr=>exact⟨_,.bool (decide (m>n)),e,by simp[binOp,Op.intCmp],fun _ _=>VR.bool _⟩
 |geq=>exact⟨_,.bool (decide (m>=n)),e,by simp[binOp,Op.intCmp],fun _ _=>VR.bool _⟩
 |quo=>
  simp only[iG]at e;split at e
  ·cases e
  ·rename_i hz
   exact⟨_,.int κ (κ.wrap (m.tdiv n)),e,by simp[binOp,Op.intDiv,hz],fun _ _=>VR.int _ _⟩
 |rem=>
  simp only[iG]at e;split at e
  ·cases e
  ·rename_i hz
   exact⟨_,.int κ (m.tmod n),e,by simp[binOp,Op.intDiv,hz],fun _ _=>VR.int _ _⟩
 |_=>simp[iG]at e
theorem hO{op:BinOp}{κ κ':IntKind}{m n:Int}{k:AV->Option Y}{y:Y}(e:aI op κ m n k=some y)(t:TypeId)(w:World):
  ∃z v,k z=some y/\(binOp op t (.int κ m) (.int κ' n)).run P w= .ok v w/\ ∀E vw,VR E w vw z v:=by
 unfold aI at e;split at e
 ·cases e
 ·rename_i hn
  cases op with
  |shl=>exact⟨_,.int κ (κ.wrap (m*2^min n.toNat κ.bits)),e,by simp[binOp,Op.shift,hn],fun _ _=>VR.int _ _⟩
  |shr=>exact⟨_,.int κ (m.fdiv (2^min n.toNat κ.bits)),e,by simp[binOp,Op.shift,hn],fun _ _=>VR.int _ _⟩
  |_=>simp at e
theorem xH{op:BinOp}{s u:ACH}{k:AV->Option Y}{y:Y}(e:j9 op s u k=some y)(t:TypeId)(w:World):
  ∃z v,k z=some y/\(binOp op t (.string ⟨s.toArray⟩) (.string ⟨u.toArray⟩)).run P w= .ok v w/\ ∀E vw,VR E w vw z v:=by
 have h1:=Xl s;have h2:=Xl u;cases op with
 |eql=>exact⟨_,.bool (s==u),e,by simp[binOp,Op.stringOp,h1,h2],fun _ _=>VR.bool _⟩
 |neq=>exact⟨_,.bool (!(s==u)),e,by simp[binOp,Op.stringOp,h1,h2],fun _ _=>VR.bool _⟩
 |lss=>exact⟨_,.bool (Op.bytesLess s u),e,by simp[binOp,Op.stringOp,h1,h2],fun _ _=>VR.bool _⟩
 |leq=>exact⟨_,.bool (Op.bytesLess s u||s==u),e,by simp[binOp,Op.stringOp,h1,h2],fun _ _=>VR.bool _⟩
 |gtr=>exact⟨_,.bool (!(Op.bytesLess s u||s==u)),e,by simp[binOp,Op.stringOp,h1,h2],fun _ _=>VR.bool _⟩
 |geq=>exact⟨_,.bool (!Op.bytesLess s u),e,by simp[binOp,Op.stringOp,h1,h2],fun _ _=>VR.bool _⟩
 |add=>
  simp only[j9]at e;split at e
  ·rename_i hl
   refine⟨_,.string ⟨(s++u).toArray⟩,e,?_,fun _ _=>VR.str _⟩;have hs:(⟨s.toArray⟩:ByteArray).size=s.length:=by rfl
   have hu:(⟨u.toArray⟩:ByteArray).size=u.length:=by rfl
   have ZQ: ¬(((⟨s.toArray⟩:ByteArray).size+(⟨u.toArray⟩:ByteArray).size:Nat):Int)>IntKind.i64.max:=by
    grind[C_,IntKind.max,IntKind.signed,IntKind.bits]
   simp only[binOp,Op.stringOp,Sem.run_ite,AOK ZQ,vR];rfl
  simp_all
 |_=>simp[j9]at e
theorem vy{d:TD}{x z:AV}{p:Bool}(e:rR d x z=some p){E:Env}{w:World}{vw:List Bx}{v u:Value}(hx:VR E w vw x v)(hz:VR E w vw z u){t:TypeId}
  (hu:jn P t d) (n:Nat):(Op.equalIn (n+1) t v u).run P w= .ok p w/\d.agg=false:=by
 unfold rR at e;split at e
 ·rename_i κ j a k b
  split at e
  ·rename_i hj
   subst hj;cases e;rw[dM hx,dM hz];exact⟨run_equalIn_int (P:=P) w n t j κ a b hu,rfl⟩
  simp_all
 ·cases e
  rw[Tf hx,Tf hz];exact⟨run_equalIn_bool' (P:=P) w n t _ _ hu,rfl⟩
 ·cases e
  rename_i a b;rw[Yh hx,Yh hz];have q:=run_equalIn_string (P:=P) w n t ⟨a.toArray⟩ ⟨b.toArray⟩ hu;rw[Xl,Xl]at q;exact⟨q,rfl⟩
 simp_all
theorem iN{T:KS}(hT:FE P T){E:Env}{w:World}{vw:List Bx}{xs ys:Array Value}:∀{fields:List Field} {i:Nat} {l m:List AV} {vs us:List Value} {r:Bool},
  (∀f∈fields,f.name≠ "_")->kM E w vw l vs->kM E w vw m us->L8 T i (fields.map fun f=>(f.offset,f.type)) l m=some r->
  (∀(j:Nat) v,vs[j]? =some v->xs[i+j]? =some v)->(∀(j:Nat) v,us[j]? =some v->ys[i+j]? =some v)->(Op.eqFields 9999 xs ys fields).run P w= .ok r w
 |[],i,[],[],_,_,r,_,_,_,e,_,_=>by
  simp only[AZm,L8,AON]at e;subst e;rfl
 |f::fs,i,x::l,z::m,v::vs,u::us,r,hn,hx,hz,e,h1,h2=>by
  simp only[AW2,L8]at e;split at e
  case isFalse=>cases e
  rename_i ho;have hv:=h1 0 v rfl;have hu:=h2 0 u rfl;simp only[AW4]at hv hu;have AYS:=hn f (by simp);split at e
  case h_2=>cases e
  rename_i ti Vz;split at e
  case h_2=>cases e
  rename_i p hp;simp only[AOP]at e;obtain⟨r',e',rfl⟩:=e;have Ab2:=iN hT (fields:=fs) (i:=i+1) (l:=l) (m:=m) (vs:=vs) (us:=us) (r:=r') (fun f hf=>hn f (by simp[hf])) hx.2 hz.2 e'
   (fun j v' hj=>by have:=h1 (j+1) v' (by simp_all);rwa [show i+(j+1)=i+1+j by omega]at this)
   (fun j v' hj=>by have:=h2 (j+1) v' (by simp_all);rwa [show i+(j+1)=i+1+j by omega]at this)
  have km:=(hT f.type ti Vz).und;obtain⟨q,na⟩:=vy (P:=P) hp hx.1 hz.1 (t:=f.type) km 9998;have lk:=FE.isAgg hT Vz w;rw[na]at lk;have p1:(part f.type xs f.offset).run P w= .ok v w:=by simp[part,lk,ho,hv]
  have p2:(part f.type ys f.offset).run P w= .ok u w:=by simp[part,lk,ho,hu]
  simp only[Op.eqFields,AYS,ne_eq,not_false_eq_true,AVR,Sem.run_bind,p1,p2,Result.andThen_ok,q,Ab2,Sem.run_ite,Sem.run_pure];grind
 |[],_,_::_,_,_,_,_,_,_,_,e,_,_=>by simp[L8]at e
 |[],_,[],_::_,_,_,_,_,_,_,e,_,_=>by simp[L8]at e
 |_::_,_,[],_,_,_,_,_,_,_,e,_,_=>by simp[L8]at e
 |_::_,_,x::_,[],_,_,_,_,_,_,e,_,_=>by simp[L8]at e
 |_::_,_,_::_,_::_,[],_,_,_,hx,_,_,_,_=>hx.elim
 |_::_,_,_::_,_::_,_::_,[],_,_,_,hz,_,_,_=>hz.elim
theorem rb(op:BinOp)(t:TypeId)(p q:Bool)(hu:P.underlying t=some .bool)(w:World):(op= .eql->(binOp op t (.bool p) (.bool q)).run P w= .ok (.bool (p==q)) w)/\
  (op= .neq->(binOp op t (.bool p) (.bool q)).run P w= .ok (.bool (!(p==q))) w):=by
 have h:=run_equalIn_bool' (P:=P) w 9999 t p q hu;constructor
 ·rintro rfl
  grind[binOp,Op.equal,Op.maxDepth,Sem.run_bind,Result.andThen_ok,Sem.run_pure]
 ·rintro rfl
  grind[binOp,Op.equal,Op.maxDepth,Sem.run_bind,Result.andThen_ok,Sem.run_pure]
theorem ir{T:KS}(hT:FE P T){t:Nat}{op:BinOp}{x z:XV}{k:AV->Option Y}{y:Y}(e:xt T t op x z k=some y){E:Env}{w:World}{vw:List Bx}{v u:Value}
  (hx:XR E w vw x v) (hz:XR E w vw z u) (ox oz:Operand):
  ∃r val,k r=some y/\(do eqGuard op t ox oz v u;binOp op t v u:Sem Value).run P w= .ok val w/\VR E w vw r val:=by
 have guard:∀(v u:Value),(∀l,v≠ .agg l)->v≠ .nilIface-> ∀val,(binOp op t v u).run P w= .ok val w->(do eqGuard op t ox oz v u;binOp op t v u:Sem Value).run P w= .ok val w:=by
  grind[Sem.run_bind,yS,Result.andThen_ok]
 unfold xt at e;split at e
 ·rename_i j m j' n
  have hv:=dM (E:=E) (vw:=vw) hx;have hu:=dM (E:=E) (vw:=vw) hz;subst hv hu;have done:∀(q:∃r val,k r=some y/\(binOp op t (.int j m) (.int j' n)).run P w= .ok val w/\ ∀E vw,VR E w vw r val),∃r val,k r=some y/\(do eqGuard op t ox oz (.int j m) (.int j' n);binOp op t (.int j m) (.int j' n):Sem Value).run P w= .ok val w/\VR E w vw r val:=by
   grind
  split at e
  ·exact done (hO e t w)
  ·exact done (hO e t w)
  ·split at e
   ·rename_i hj
    subst hj;exact done (yI e t w)
   simp_all
 ·rename_i s s'
  have hv:=Yh (E:=E) (vw:=vw) hx;have hu:=Yh (E:=E) (vw:=vw) hz;subst hv hu;obtain⟨r,val,h1,h2,h3⟩:=xH (P:=P) e t w;grind
 ·rename_i p q
  have hv:=Tf (E:=E) (vw:=vw) hx;have hu:=Tf (E:=E) (vw:=vw) hz;subst hv hu;split at e
  ·rename_i ti Vz
   have km:=(hT t ti Vz).und;split at e
   ·rename_i hd
    rw[hd]at km;split at e
    ·exact⟨_,_,e,guard _ _ (by simp) (by simp) _ ((rb _ t p q km w).1 rfl),VR.bool _⟩
    ·exact⟨_,_,e,guard _ _ (by simp) (by simp) _ ((rb _ t p q km w).2 rfl),VR.bool _⟩
    simp_all
   simp_all
  simp_all
 ·rename_i l m
  obtain⟨vs,rfl,Wy⟩:=hx;obtain⟨us,rfl,hus⟩:=hz;have key:∀r,((T.fields t).bind fun fs=>L8 T 0 fs l m)=some r->(Op.equalIn 10000 t (.agg vs) (.agg us)).run P w= .ok r w/\P.eqGuardType P.depth t=false:=by
   intro r hr;simp only[AOc]at hr;obtain⟨fs,hf,hr⟩:=hr;unfold KS.fields at hf;split at hf
   ·rename_i fs' hd
    cases hf;simp only[AOP]at hd;obtain⟨ti,Vz,hd⟩:=hd;have km:=(hT t ti Vz).und;rw[hd]at km;obtain⟨fields,hu,hfs,hnm,sk,hg⟩:=km;grind[Program.fieldsOf,run_equalIn_agg,iN]
   simp_all
  split at e
  ·rename_i r hr
   obtain⟨q,hg⟩:=key r hr;refine⟨_,_,e,?_,VR.bool r⟩;grind[Sem.run_bind,run_eqGuard_agg,Result.andThen_ok,run_eql_struct]
  ·rename_i r hr
   obtain⟨q,hg⟩:=key r hr;refine⟨_,_,e,?_,VR.bool (!r)⟩;grind[Sem.run_bind,run_eqGuard_agg,Result.andThen_ok,run_neq_struct]
  simp_all
 simp_all
end
end Go.Fw
end
section
namespace Go.Fw
section
variable{Y:Type} {P:Program} {T:KS} (hT:FE P T) {E:Env} {w:World} {vw:List Bx}
include hT
theorem ALN{t:Nat}{s b:Nat}{fs:List AD9}{rw:Option Ty}(e:T.get t=some ⟨s,b,.st fs,rw⟩):∃fields,P.underlying t=some (.struct fields)/\fields.toList.map (fun f=>(f.offset,f.type))=fs/\
  ∀f∈fields.toList,∃i,P.info? f.type=some i/\i.size≠0:=by
 obtain⟨fields,h1,h2,h3,_⟩:=(hT t _ e).und;simp_all
omit hT in
theorem rp{a:Addr}{f:Field}(h:∃i,P.info? f.type=some i/\i.size≠0):(fieldPlace a f).run P w= .ok (a.add f.offset) w:=by
 obtain⟨i,h1,h2⟩:=h;simp[fieldPlace,Go.sizeOf,typeInfo,h1,h2]
theorem V4{t:Nat}{s b:Nat}{fs:List AD9}{rw:Option Ty}(e:T.get t=some ⟨s,b,.st fs,rw⟩){f o u:Nat}(hf:fs[f]? =some (o,u)){a:Addr}:
  (Instr.fieldAt t (.pointer (some a)) f).run P w= .ok (.pointer (some (a.add o))) w:=by
 obtain⟨fields,h1,h2,h3⟩:=ALN hT e;subst h2;simp only[AVI,AOP]at hf;obtain⟨fld,zC,he⟩:=hf;have hm:=ASU zC;have hfa:fields[f]? =some fld:=by simp_all
 simp only[AUW]at he;simp[Instr.fieldAt,Bh h1,hfa,Instr.sureAddr,rp (h3 fld hm),he.1]
theorem ku{t:Nat}{x z:XV}{f:Nat}(e:wJ T t x f=some z){v:Value}(hx:XR E w vw x v):∃u,(Instr.fieldAt t v f).run P w= .ok u w/\XR E w vw z u:=by
 unfold wJ at e;split at e
 case h_2=>cases e
 rename_i s b fs _ Vz;split at e
 case h_2=>cases e
 rename_i o u hf;split at e
 ·rename_i b' j
  cases e;obtain⟨h1,rfl⟩:=hx;exact⟨_,V4 hT Vz hf,h1,by rw[Addr.add_eq]⟩
 ·rename_i b' p i sz j
  cases e;obtain⟨h0,h1⟩:=hx;cases v with
  |pointer oa=>
   cases oa with
   |none=>simp[eD]at h0
   |some a=>
    obtain⟨ab,ao,sp⟩:=a;cases sp with
    |some _=>simp[eD]at h0
    |none=>
     refine⟨_,V4 hT Vz hf,by rw[Addr.add_eq];rfl,?_⟩;revert h1;split
     ·rintro⟨hp,q,ys,bb,o',len,cap,g1,g2,g3,g4⟩
      refine⟨hp,q,ys,bb,o',len,cap,g1,g2,g3,?_⟩;simp only[Value.pointer.injEq,AON,Addr.mk.injEq,AVW]at g4;grind[Addr.add_eq,Nat.add_assoc]
     all_goals simp_all
  |_=>simp[eD]at h0
 ·rename_i s r y j
  cases e;obtain⟨bb,o',cs,rfl,h2,h3,h4,h5⟩:=hx;refine⟨_,V4 hT Vz hf,bb,o',cs,?_,h2,h3,h4,h5⟩;rw[Addr.add_eq,AV_]
 simp_all
theorem od{t:Nat}{x z:XV}{f:Nat}(e:AFP T t x f=some z){v:Value}(hx:XR E w vw x v):∃u,(Instr.field t v f).run P w= .ok u w/\XR E w vw z u:=by
 unfold AFP at e;split at e
 case h_2=>cases e
 rename_i s b fs _ l Vz;obtain⟨vs,rfl,Wy⟩:=hx;split at e
 case h_2=>cases e
 rename_i o u hf;split at e
 case h_2=>cases e
 rename_i ti htu;obtain⟨fields,h1,h2,h3⟩:=ALN hT Vz;subst h2;simp only[AVI,AOP]at hf;obtain⟨fld,zC,he⟩:=hf;have hfa:fields[f]? =some fld:=by simp_all
 simp only[AUW]at he;obtain⟨rfl,rfl⟩:=he;have lk:=FE.isAgg hT htu w;have QW:=FE.sizeOf hT htu w;split at e
 ·rename_i ha
  cases e;rw[ha]at lk;refine⟨.agg (vs.extract fld.offset (fld.offset+ti.size)),?_,_,rfl,?_⟩
  ·simp[Instr.field,Bh h1,hfa,asAgg,part,lk,QW]
  ·have:(vs.extract fld.offset (fld.offset+ti.size)).toList=(vs.toList.drop fld.offset).take ti.size:=by
    simp_all
   rw[this];exact Cg.take _ (Cg.drop _ Wy)
 ·rename_i ha
  simp only[ASw]at ha;rw[ha]at lk;simp only[AOP]at e;obtain⟨y,hy,rfl⟩:=e;obtain⟨v,hv,hr⟩:=Cg.get Wy hy;refine⟨v,?_,hr⟩;have:vs[fld.offset]? =some v:=by simp_all
  simp[Instr.field,Bh h1,hfa,asAgg,part,lk,this]
theorem LJ{t:Nat}{r:Ty}(h:T.OW t r=true):∃e ti,P.underlying t=some (.slice e)/\T.get e=some ti/\ti.size=r.n/\ti.bytes<=512/\ti.row=some r:=by
 unfold KS.OW at h;split at h
 ·rename_i ti Vz
  simp only[AOw,APo]at h;unfold KS.elem at Vz;split at Vz
  ·rename_i e hd
   simp only[AOP]at hd;obtain⟨tj,h1,h2⟩:=hd;have:=(hT t tj h1).und;rw[h2]at this;exact⟨e,ti,this,Vz,h.1.1,h.1.2,h.2⟩
  simp_all
 simp_all
theorem YQ{t:Nat}(h:T.isStr t=true):P.underlying t=some .string:=by
 unfold KS.isStr at h;split at h
 ·rename_i hd
  simp only[AOP]at hd;obtain⟨tj,h1,h2⟩:=hd;have:=(hT t tj h1).und;rw[h2]at this;exact this
 simp_all
theorem mC{t:Nat}(h:T.AKO t=true):∃e,P.underlying t=some (.slice e):=by
 unfold KS.AKO at h;split at h
 ·rename_i e hd
  simp only[AOP]at hd;obtain⟨tj,h1,h2⟩:=hd;have:=(hT t tj h1).und;rw[h2]at this;exact⟨e,this⟩
 simp_all
omit hT in
theorem JF{x:XV}{n:Int}(e:eu x=some n){v:Value}(hx:XR E w vw x v):∃κ,v= .int κ n:=by
 unfold eu at e;split at e
 ·cases e;exact⟨_,dM (E:=E) (w:=w) (vw:=vw) hx⟩
 ·cases e
theorem fx{t:Nat}{r:Ty}(h:T.OW t r=true){κ:IntKind}{i:Int}{a:Addr}{len cap:Nat}(h0:0<=i)(h1:i<(len:Int)):
  (Instr.indexAt t (.slice (some a) len cap) (.int κ i)).run P w= .ok (.pointer (some (a.add (i.toNat*r.n)))) w:=by
 obtain⟨e,ti,hu,Vz,hs,_⟩:=LJ hT h;have QW:=FE.sizeOf hT Vz w;simp[Instr.indexAt,asIntOf,Bh hu,h0,h1,QW,hs]
omit hT in
theorem AAZ{bx:List Bx}{Fs:List ABU}(hB:OG E w bx bx Fs)(st:∀c,E.S c->E.T c){x:AV}{v:Value}(hv:VR E w bx x v){q:Ty}{ys:List q.D}(e:OU bx x=some ⟨q,ys⟩):
  ∃a cap,v= .slice a ys.length cap/\ys.length<=cap/\(ys.length=0\/ ∃b o,a=some ⟨b,o,none⟩):=by
 have:=bh (Fg.refl bx) hB st hv e;simp only[Rd]at this;obtain⟨a,cap,h1,h2,h3⟩:=this;simp only[ATj,AVW]at h1;exact⟨a,cap,h1,h2,h3.imp id fun⟨b,o,h,_⟩=>⟨b,o,h⟩⟩
theorem kh{σ:St}{Fs:List ABU}(hB:OG E w σ.bx σ.bx Fs)(st:∀c,E.S c->E.T c){t:Nat}{x i:XV}{k:K Y}{y:Y}(e:mA σ T t x i k=some y){v u:Value}
  (hx:XR E w σ.bx x v) (hi:XR E w σ.bx i u):∃z val,k z σ=some y/\(Instr.indexAt t v u).run P w= .ok val w/\XR E w σ.bx z val:=by
 unfold mA at e;split at e
 ·rename_i s r rows n hn
  obtain⟨κ,rfl⟩:=JF hn hi;split at e
  case isFalse=>cases e
  rename_i Vb;split at e
  case isFalse=>cases e
  rename_i hb;obtain⟨h0,h1⟩:=hb;simp only[XR,VR,Rd]at hx;obtain⟨a,cap,hv,hl,hx⟩:=hx;simp only[ATj,AVW]at hv;subst hv;rcases hx with hx|⟨b,o,rfl,hb,hx⟩
  ·omega
  ·have Ha:n.toNat<rows.length:=by omega
   obtain⟨cs,c1,c2,c3⟩:=hx n.toNat _ (SV Ha);refine⟨_,_,e,fx hT Vb h0 h1,b,o+n.toNat*r.n,cs,?_,by omega,c1,c2,by omega⟩;rw[Addr.add_eq];rfl
 ·rename_i b p n hn
  obtain⟨κ,rfl⟩:=JF hn hi;split at e
  case h_2=>cases e
  rename_i q hq;split at e
  case isFalse=>cases e
  rename_i Vb;split at e
  case isFalse=>cases e
  rename_i hb;obtain⟨h0,h1⟩:=hb
  change VR E w σ.bx (.ref b p) v at hx
  obtain⟨a,cap,rfl,hl,ha⟩:=AAZ hB st hx hq;rcases ha with ha|⟨b',o,rfl⟩
  ·omega
  ·refine⟨_,_,e,fx hT Vb h0 h1,by rw[Addr.add_eq];rfl,?_⟩
   simp only[OU]at hq;obtain⟨_,hx⟩:=hx;grind[Addr.add_eq]
 ·rename_i b p off n' n hn
  obtain⟨κ,rfl⟩:=JF hn hi;split at e
  case h_2=>cases e
  rename_i q hq;split at e
  case isFalse=>cases e
  rename_i Vb;split at e
  case isFalse=>cases e
  rename_i hb;obtain⟨h0,h1⟩:=hb;simp only[OU]at hq;obtain⟨h00,hx⟩:=hx;revert hx;split
  ·rename_i d r rows wg
   rw[wg]at hq;dsimp only at hq
   rintro⟨hp,q',ys,a,len,cap,g1,g2,g3,rfl⟩
   have ZH:=eg (Fg.refl _) hB st wg hp g1 g3;simp only[Rd]at ZH;obtain⟨a',cap',ee,hle,ZH⟩:=ZH;simp only[ATj,Value.slice.injEq,AVW]at ee;obtain⟨rfl,rfl,rfl⟩:=ee;rcases ZH with ZH|⟨b',o,rfl,_,_⟩
   ·omega
   ·unfold WK
    rw[AOK (by omega)];have hq1:q.1=q':=by
     grind
    refine⟨_,_,e,fx hT Vb h0 h1,by simp only[Option.map];rw[Addr.add_eq,Addr.add_eq];rfl,?_⟩;grind[Addr.add_eq,Nat.add_assoc,Nat.add_mul]
  all_goals simp_all
 simp_all
theorem df{σ:St}{t:Nat}{x i:XV}{k:K Y}{y:Y}(e:Xu T t σ x i k=some y){v u:Value}(hx:XR E w vw x v)(hi:XR E w vw i u):
  ∃z val,k z σ=some y/\(Instr.index t v u).run P w= .ok val w/\XR E w vw z val:=by
 unfold Xu at e;split at e
 ·rename_i s n hn
  obtain⟨κ,rfl⟩:=JF hn hi;have hv:=Yh (E:=E) (w:=w) (vw:=vw) hx;subst hv;split at e
  case isFalse=>cases e
  rename_i sk;split at e
  case isFalse=>cases e
  rename_i hb;obtain⟨h0,h1⟩:=hb;refine⟨_,.int .u8 ((s.getD n.toNat 0).toNat:Int),e,?_,VR.int (E:=E) (vw:=vw) _ _⟩;have Ha:n.toNat<s.length:=by omega
  have:(⟨s.toArray⟩:ByteArray)[n.toNat]? =some s[n.toNat]:=by
   rw[getElem?_pos _ _ (by grind[ByteArray.size])];rfl
  simp[Instr.index,asIntOf,Bh (YQ hT sk),h0,this,Ha]
 simp_all
omit hT in
theorem fH{x z:XV}{i:Nat}(e:sZ x i=some z){v:Value}(hx:XR E w vw x v):∃u,(Instr.extract v i).run P w= .ok u w/\XR E w vw z u:=by
 unfold sZ at e;split at e
 case h_2=>cases e
 rename_i l;obtain⟨vs,rfl,Wy⟩:=hx;split at e
 ·rename_i x hx
  cases e;obtain⟨v,hv,hr⟩:=Wy.get hx;have:vs[i]? =some v:=by simpa using hv
  exact⟨v,by simp[Instr.extract,this],hr⟩
 ·rename_i q hx
  cases e;obtain⟨v,hv,ws,rfl,hr⟩:=Wy.get hx;have:vs[i]? =some (.agg ws):=by simpa using hv
  exact⟨.agg ws,by simp[Instr.extract,this],ws,rfl,hr⟩
 ·cases e
omit hT in
theorem oG{bx:List Bx}{Fs:List ABU}(hB:OG E w bx bx Fs)(st:∀c,E.S c->E.T c){x:AV}{n:Nat}(e:lenOf bx x=some n){v:Value}(hx:VR E w bx x v):
  ∃a cap,v= .slice a n cap:=by
 cases x with
 |nil=>simp only[lenOf,AON]at e;subst e;exact⟨_,_,hx⟩
 |sl s r x=>
  simp only[lenOf,AON]at e;subst e;simp only[VR,Rd]at hx;obtain⟨a,cap,h,_⟩:=hx;simp only[ATj,AVW]at h;exact⟨a,cap,h⟩
 |ref b p=>
  simp only[lenOf]at e;split at e
  ·rename_i d r rows hb
   simp only[AOP]at e;obtain⟨q,hq,rfl⟩:=e;obtain⟨a,cap,h,_⟩:=AAZ hB st hx (q:=q.1) (ys:=q.2) (by simp only[OU,hb];exact hq);exact⟨a,cap,h⟩
  ·cases e
 |win b p off m=>
  simp only[lenOf]at e;split at e
  ·rename_i d r rows hb
   cases e;simp only[VR,hb]at hx;obtain⟨_,_,q,ys,a,len,cap,_,_,_,rfl⟩:=hx;exact⟨_,_,rfl⟩
  ·cases e
 |_=>simp[lenOf]at e
omit hT in
theorem Ut{big:Bool}{x z:XV}{k:AV->Option Y}{y:Y}(e:vW big x z k=some y){v u:Value}(hx:XR E w vw x v)(hz:XR E w vw z u)(t s:Array TypeId)(tt:TypeId):
  ∃r val,k r=some y/\(if big then Builtin.max_ t tt #[v,u]else Builtin.min_ t tt #[v,u]).run P w= .ok val w/\VR E w vw r val:=by
 unfold vW at e;split at e
 ·rename_i j m j' n
  have hv:=dM (E:=E) (w:=w) (vw:=vw) hx;have hu:=dM (E:=E) (w:=w) (vw:=vw) hz;subst hv hu;split at e
  case isFalse=>cases e
  rename_i hj;subst hj;cases big with
  |true=>exact⟨_,.int j (if n>m then n else m),e,by simp[Builtin.max_,Builtin.max2],VR.int _ _⟩
  |false=>exact⟨_,.int j (if n<m then n else m),e,by simp[Builtin.min_,Builtin.min2],VR.int _ _⟩
 ·cases e
omit hT in
theorem mb{op:UnOp}{x:XV}{k:AV->Option Y}{y:Y}(e:unX op x k=some y){v:Value}(hx:XR E w vw x v):
  ∃r val,k r=some y/\(Op.unary op v).run P w= .ok val w/\VR E w vw r val:=by
 unfold unX at e;split at e
 ·have hv:=Tf (E:=E) (w:=w) (vw:=vw) hx
  subst hv;exact⟨_,_,e,by simp[Op.unary],VR.bool _⟩
 ·rename_i j n
  have hv:=dM (E:=E) (w:=w) (vw:=vw) hx;subst hv;exact⟨_,.int j (j.wrap (0-n)),e,by simp[Op.unary,Op.intArith],VR.int _ _⟩
 ·cases e
end
end Go.Fw
end
section
namespace Go.Fw
theorem SC{a:Ty}(x:a.D):qN rfl x=x:=rfl
theorem gQ{w:World}{S:Nat->Prop}:∀{r:Ty} {d j:Nat} {cs:List Value} {x:r.D} {F:ABU} {t:Ty} {y:t.D},Ow w S d r cs x F->Ba r j x=some ⟨t,y⟩->
  ∃v F1 F2,cs[j]? =some v/\Ow w S d t [v] y F1/\F.Perm (F1++F2)/\
   ∀(w':World) (S':Nat->Prop) (v':Value) (y':t.D) (qA:ABU) (x':r.D),(∀b,S b->S' b)->(∀b,S b->w'.heap[b]? =w.heap[b]?)->(∀b∈F2,w'.heap[b]? =w.heap[b]?)->
    Ow w' S' d t [v'] y' qA->EK r j x t y' =some x'-> ∃F',F'.Perm (qA++F2)/\Ow w' S' d r (cs.set j v') x' F'
 | .cons c r,d,0,cs,x,F,t,y,h,e=>by
  simp only[Ow]at h;obtain⟨v,l,A,B,rfl,rfl,h1,h2⟩:=h;simp only[Ba,AON,ARQ]at e;obtain⟨rfl,e⟩:=e;obtain rfl:=AU_ e;refine⟨v,A,B,rfl,h1,AZ8 _,fun w' S' v' y' qA x' hS uk hF ho hx=> ?_⟩;simp only[EK,AZv,SC,AON]at hx;subst hx;refine⟨qA++B,AZ8 _,?_⟩;simp only[Ow,AY7];exact⟨v',l,qA,B,rfl,rfl,ho,En hS uk hF h2⟩
 | .cons c r,d,j+1,cs,x,F,t,y,h,e=>by
  simp only[Ow]at h;obtain⟨v,l,A,B,rfl,rfl,h1,h2⟩:=h;simp only[Ba]at e;obtain⟨u,F1,F2,k1,k2,k3,k4⟩:=gQ h2 e;refine⟨u,F1,A++F2,by simp_all,k2,?_,fun w' S' v' y' qA x' hS uk hF ho hx=> ?_⟩
  ·grind
  ·simp only[EK,AOP]at hx
   obtain⟨z,hz,rfl⟩:=hx;obtain⟨F',p1,p2⟩:=k4 w' S' v' y' qA z hS uk (fun b hb=>hF b (by simp[hb])) ho hz;refine⟨A++F',?_,?_⟩
   ·grind
   ·simp only[Ow,List.set_cons_succ]
    exact⟨v,_,A,F',rfl,rfl,En hS uk (fun b hb=>hF b (by simp[hb])) h1,p2⟩
 | .int k,d,0,cs,x,F,t,y,h,e=>by
  simp only[Ba,AON,ARQ]at e;obtain⟨rfl,e⟩:=e;obtain rfl:=AU_ e;have hc:=YB h;obtain⟨v,rfl⟩:∃v,cs=[v]:=by
   cases cs with
   |nil=>simp[Ty.n]at hc
   |cons a l=>cases l with
    |nil=>simp_all
    |cons _ _=>simp[Ty.n]at hc
  refine⟨v,F,[],rfl,h,by simp,fun w' S' v' y' qA x' hS uk hF ho hx=>⟨qA,by simp,?_⟩⟩;simp only[EK,AZv,SC,AON]at hx;simp_all
 | .bool,d,0,cs,x,F,t,y,h,e=>by
  simp only[Ba,AON,ARQ]at e;obtain⟨rfl,e⟩:=e;obtain rfl:=AU_ e;have hc:=YB h;obtain⟨v,rfl⟩:∃v,cs=[v]:=by
   cases cs with
   |nil=>simp[Ty.n]at hc
   |cons a l=>cases l with
    |nil=>simp_all
    |cons _ _=>simp[Ty.n]at hc
  refine⟨v,F,[],rfl,h,by simp,fun w' S' v' y' qA x' hS uk hF ho hx=>⟨qA,by simp,?_⟩⟩;simp only[EK,AZv,SC,AON]at hx;simp_all
 | .str,d,0,cs,x,F,t,y,h,e=>by
  simp only[Ba,AON,ARQ]at e;obtain⟨rfl,e⟩:=e;obtain rfl:=AU_ e;have hc:=YB h;obtain⟨v,rfl⟩:∃v,cs=[v]:=by
   cases cs with
   |nil=>simp[Ty.n]at hc
   |cons a l=>cases l with
    |nil=>simp_all
    |cons _ _=>simp[Ty.n]at hc
  refine⟨v,F,[],rfl,h,by simp,fun w' S' v' y' qA x' hS uk hF ho hx=>⟨qA,by simp,?_⟩⟩;simp only[EK,AZv,SC,AON]at hx;simp_all
 | .sl r,d,0,cs,x,F,t,y,h,e=>by
  simp only[Ba,AON,ARQ]at e;obtain⟨rfl,e⟩:=e;obtain rfl:=AU_ e;have hc:=YB h;obtain⟨v,rfl⟩:∃v,cs=[v]:=by
   cases cs with
   |nil=>simp[Ty.n]at hc
   |cons a l=>cases l with
    |nil=>simp_all
    |cons _ _=>simp[Ty.n]at hc
  refine⟨v,F,[],rfl,h,by simp,fun w' S' v' y' qA x' hS uk hF ho hx=>⟨qA,by simp,?_⟩⟩;simp only[EK,AZv,SC,AON]at hx;simp_all
 | .unit,_,_,_,_,_,_,_,_,e=>by simp[Ba]at e
 | .int _,_,_+1,_,_,_,_,_,_,e=>by simp[Ba]at e
 | .bool,_,_+1,_,_,_,_,_,_,e=>by simp[Ba]at e
 | .str,_,_+1,_,_,_,_,_,_,e=>by simp[Ba]at e
 | .sl _,_,_+1,_,_,_,_,_,_,e=>by simp[Ba]at e
theorem mP{Fs:List ABU}{i:Nat}{G G':ABU}(h:Fs[i]? =some G):(Fs.set i G').flatten.Perm (G'++(Fs.set i []).flatten):=by
 have Ha:=(AOS.1 h).1;have p1:=VX (Fs:=Fs.set i G') (b:=i) (F:=G') (AVe (by omega));simp_all
theorem wX{w:World}{S:Nat->Prop}{d:Nat}{q:Ty}{a:Option Addr}{len cap:Nat}{ys:List q.D}{F:ABU}(h:Ow w S (d+1) (.sl q) [.slice a len cap] ys F){i:Nat}(hi:i<ys.length):
  ∃b o arr ty fr cs G R,a=some ⟨b,o,none⟩/\w.heap[b]? =some (.cells arr ty fr)/\w_ fr arr.size/\o+i*q.n+q.n<=arr.size/\cs.length=q.n/\Bj w b (o+i*q.n) cs/\
   Ow w S d q cs (rowAt q ys i) G/\F.Perm (G++(b::R))/\
   ∀(w':World) (S':Nat->Prop) (LP:Array Value) (eY:List Value) (b_:q.D) (G':ABU),(∀c,S c->S' c)->(∀c,S c->w'.heap[c]? =w.heap[c]?)->(∀c∈R,w'.heap[c]? =w.heap[c]?)->
    w'.heap[b]? =some (.cells LP ty fr)->LP.size=arr.size->(∀k,(k<o+i*q.n\/o+i*q.n+q.n<=k)->LP[k]? =arr[k]?)->eY.length=q.n->Bj w' b (o+i*q.n) eY->
    Ow w' S' d q eY b_ G'-> ∃F',F'.Perm (G'++(b::R))/\Ow w' S' (d+1) (.sl q) [.slice a len cap] (ys.set i b_) F':=by
 simp only[Ow]at h;obtain⟨a',cap',e,hle,h⟩:=h;simp only[ATj,Value.slice.injEq,AVW]at e;obtain⟨rfl,rfl,rfl⟩:=e;rcases h with⟨h1,_⟩|⟨b,o,arr,ty,fr,Fs,rfl,hb,QW,hu,rfl,hFl,dZ⟩
 ·omega
 ·have hG:Fs[i]? =some (Fs[i]'(by omega)):=AOM _
  generalize Fs[i]'(by omega)=G at hG
  obtain⟨cs,c1,c2,c3⟩:=dZ i _ G (SV hi) hG;have hbound:o+i*q.n+q.n<=arr.size:=by
   have:(i+1)*q.n<=cap*q.n:=ASH _ (by omega);grind
  refine⟨b,o,arr,ty,fr,cs,G,(Fs.set i []).flatten,rfl,hb,fun i hi=>hu i (by omega),hbound,c1,c2,c3,?_,?_⟩
  ·refine(List.Perm.cons b (VX hG)).trans ?_
   exact List.perm_middle.symm
  ·intro w' S' LP eY b_ G' hS uk hR hb' hs' hk Xq hca ho
   refine⟨b::(Fs.set i G').flatten,?_,?_⟩
   ·grind[List.Perm.cons,mP,trans]
   ·simp only[Ow]
    refine⟨_,cap,by simp,by simp_all,.inr ⟨b,o,LP,ty,fr,Fs.set i G',rfl,hb',by omega,by simp_all,rfl,by simp_all,fun k y H hy hH=> ?_⟩⟩;by_cases e:k=i
    ·grind
    ·rw[AVL (by omega)]at hy
     rw[AVL (by omega)]at hH;obtain⟨ds,d1,d2,d3⟩:=dZ k y H hy hH;refine⟨ds,d1,fun j v hj=> ?_,En hS uk (fun c hc=>hR c (AVK.2 ⟨H,ASU (by grind:(Fs.set i [])[k]? =some H),hc⟩)) d3⟩;have zA:=(AOS.1 hj).1;have hold:=d2 j v hj;simp only[World.cell?,hb,AVb,AO5,ATF]at hold;simp only[World.cell?,hb',AVb,AO5,ATF];rw[hk,hold];rcases Nat.lt_or_gt_of_ne e with e|e
     ·left
      have:(k+1)*q.n<=i*q.n:=ASH _ e;grind
     ·right
      have:(i+1)*q.n<=k*q.n:=ASH _ e;grind
theorem rh{w:World}{S:Nat->Prop}:∀{p:List Xw} {d:Nat} {r:Ty} {h:Value} {rows:List r.D} {F:ABU} {q:Ty} {ys:List q.D},Ow w S d (.sl r) [h] rows F->DT r rows p->
  HZ r rows p=some ⟨q,ys⟩->p.length<d-> ∃h' F1 F2,JU w h p=some h'/\Ow w S (d-p.length) (.sl q) [h'] ys F1/\F.Perm (F1++F2)/\
   ∀(w':World) (S':Nat->Prop) (wi:List q.D) (qA:ABU) (DE:List r.D),(∀c,S c->S' c)->(∀c,S c->w'.heap[c]? =w.heap[c]?)->(∀c∈F2,w'.heap[c]? =w.heap[c]?)->
    Ow w' S' (d-p.length) (.sl q) [h'] wi qA->qP r rows p q wi=some DE-> ∃F',F'.Perm (qA++F2)/\Ow w' S' d (.sl r) [h] DE F'
 |[],d,r,h,rows,F,q,ys,ho,_,hg,_=>by
  simp only[HZ,AON,ARQ]at hg;obtain⟨rfl,e⟩:=hg;obtain rfl:=AU_ e;refine⟨h,F,[],DL,ho,by simp,fun w' S' wi qA DE _ _ _ y9 hs=>⟨qA,by simp,?_⟩⟩;simp only[qP,AZv,SC,AON]at hs;simp_all
 |s::p,d,r,h,rows,F,q,ys,ho,hp,hg,hd=>by
  obtain⟨d,rfl⟩:∃n,d=n+1:=⟨d-1,by omega⟩;simp only[DT]at hp;obtain⟨hi,QW,hp⟩:=hp;simp only[HZ]at hg;obtain⟨a,len,cap,rfl⟩:∃a len cap,h= .slice a len cap:=by
   have:=ho;simp only[Ow]at this;grind
  split at hg
  case h_2=>cases hg
  rename_i q' x' jl;rw[jl]at hp;obtain⟨b,o,arr,ty,fr,cs,G,R,rfl,hb,hu,hbd,c1,c2,c3,qS,hback⟩:=wX ho hi;obtain⟨v,A1,A2,k1,k2,k3,k4⟩:=gQ c3 jl;obtain⟨h',F1,F2,m1,m2,m3,m4⟩:=rh k2 hp hg (by simp_all);have ARu:d+1-(s::p).length=d-p.length:=by simp
  refine⟨h',F1,F2++A2++(b::R),?_,by simp_all,?_,?_⟩
  ·simp only[JU]
   rw[QW,c2 _ _ k1];omega
  ·grind
  ·intro w' S' wi qA DE hS uk hF2 y9 Va
   rw[ARu]at y9;simp only[qP,jl]at Va;simp only[AOc,AOP]at Va;obtain⟨x2,hx2,b_,hrow,rfl⟩:=Va;obtain⟨B1,p1,p2⟩:=m4 w' S' wi qA x2 hS uk (fun c hc=>hF2 c (by simp[hc])) y9 hx2;obtain⟨B2,p3,p4⟩:=k4 w' S' v x2 B1 b_ hS uk (fun c hc=>hF2 c (by simp[hc])) p2 hrow;have AH9:cs.set s.j v=cs:=by
    apply AYd;grind
   rw[AH9]at p4;have hbb:=hF2 b (by simp);obtain⟨F',p5,p6⟩:=hback w' S' arr cs b_ B2 hS uk (fun c hc=>hF2 c (by simp[hc])) (hbb.trans hb) rfl (fun _ _=>rfl) c1 (c2.of_block hbb) p4;grind
end Go.Fw
end
section
namespace Go.Fw
def OR(E:Env)(w:World)(vw:List Bx):Option XV->Option Value->Prop
 |none,none=>True
 |some x,some v=>XR E w vw x v
 |_,_=>False
section
variable{Y:Type} {P:Program} {T:KS} (hT:FE P T) {E:Env} {w:World} {vw:List Bx}
theorem run_sliceBound{κ:IntKind}{i:Int}{y:Nat}{code:BoundsCode}(h0:0<=i)(h1:i<=(y:Int)):(Instr.sliceBound (.int κ i) y code).run P w= .ok i.toNat w:=by
 simp[Instr.sliceBound,asIntOf,h0,h1]
theorem UZ{len cap:Nat}(hc:len<=cap){lo hi:Option XV}{k:Nat->Nat->Option Y}{y:Y}(e:PW len lo hi k=some y){lv hv:Option Value}
  (hl:OR E w vw lo lv) (hh:OR E w vw hi hv) (b:Bool):∃l h,k l h=some y/\l<=h/\h<=len/\(Instr.sliceBounds b len cap lv hv none).run P w= .ok (l,h,cap) w:=by
 unfold PW at e;dsimp only at e;split at e
 case h_2=>cases e
 rename_i l h el eh;split at e
 case isFalse=>cases e
 rename_i hb;obtain⟨b1,b2,b3⟩:=hb;refine⟨l.toNat,h.toNat,e,by omega,by omega,?_⟩;cases hi with
 |none=>cases hv with
  |some _=>exact hh.elim
  |none=>
   simp only[AON]at eh;subst eh;cases lo with
   |none=>cases lv with
    |some _=>exact hl.elim
    |none=>
     simp only[AON]at el;subst el;rfl
   |some x=>cases lv with
    |none=>exact hl.elim
    |some v=>
     obtain⟨κ,rfl⟩:=JF (E:=E) (w:=w) (vw:=vw) el hl;simp[Instr.sliceBounds,run_sliceBound (P:=P) (w:=w) (κ:=κ) (i:=l) (y:=len) b1 (by omega)]
 |some x=>cases hv with
  |none=>exact hh.elim
  |some v=>
   obtain⟨κ,rfl⟩:=JF (E:=E) (w:=w) (vw:=vw) eh hh;have e1:=fun code=>run_sliceBound (P:=P) (w:=w) (κ:=κ) (i:=h) (y:=cap) (code:=code) (by omega) (by omega)
   cases lo with
   |none=>cases lv with
    |some _=>exact hl.elim
    |none=>
     simp only[AON]at el;subst el;simp[Instr.sliceBounds,e1]
   |some x=>cases lv with
    |none=>exact hl.elim
    |some v=>
     obtain⟨κ',rfl⟩:=JF (E:=E) (w:=w) (vw:=vw) el hl;have e2:=fun code=>run_sliceBound (P:=P) (w:=w) (κ:=κ') (i:=l) (y:=h.toNat) (code:=code) b1 (by omega)
     simp[Instr.sliceBounds,e1,e2]
theorem tT(s:ACH)(l h:Nat):(⟨s.toArray⟩:ByteArray).extract l h=⟨((s.drop l).take (h-l)).toArray⟩:=by
 apply ByteArray.ext;simp[List.extract_eq_take_drop]
include hT
theorem lQ{σ:St}{Fs:List ABU}(hB:OG E w σ.bx σ.bx Fs)(st:∀c,E.S c->E.T c){t:Nat}{x:XV}{lo hi:Option XV}{k:K Y}{y:Y}(e:mM T t σ x lo hi k=some y)
  {v:Value} {lv hv:Option Value} (hx:XR E w σ.bx x v) (hl:OR E w σ.bx lo lv) (hh:OR E w σ.bx hi hv):
  ∃z val,k z σ=some y/\(Instr.sliceAt t v lv hv none).run P w= .ok val w/\XR E w σ.bx z val:=by
 unfold mM at e;split at e
 ·rename_i s
  split at e
  case isFalse=>cases e
  rename_i sk;have hu:=YQ hT sk;have Zh:=Yh (E:=E) (w:=w) (vw:=σ.bx) hx;subst Zh;obtain⟨l,h,ek,h1,h2,hr⟩:=UZ (P:=P) (cap:=s.length) (ATX _) e hl hh false;refine⟨_,.string ⟨((s.drop l).take (h-l)).toArray⟩,ek,?_,VR.str (E:=E) (vw:=σ.bx) _⟩;have hs:(⟨s.toArray⟩:ByteArray).size=s.length:=by rfl
  simp[Instr.sliceAt,Bh hu,Instr.slice,hs,hr,tT]
 ·rename_i s r rows
  split at e
  case isFalse=>cases e
  rename_i Vb;obtain⟨el,ti,hu,Vz,hs,_⟩:=LJ hT Vb;have QW:=FE.sizeOf hT Vz w
  change VR E w σ.bx (.sl s r rows) v at hx
  have hx':=hx;simp only[VR,Rd]at hx';obtain⟨a,cap,Zh,hle,_⟩:=hx';simp only[ATj,AVW]at Zh;subst Zh;obtain⟨l,h,ek,h1,h2,hr⟩:=UZ (P:=P) hle e hl hh true;refine⟨_,WK r.n l (h-l) a cap,ek,?_,?_⟩
  ·simp[Instr.sliceAt,Bh hu,Instr.slice,hr,QW,hs,WK]
  grind[XR,VR,zS]
 ·rename_i b p
  split at e
  case h_2=>cases e
  rename_i q hq;split at e
  case isFalse=>cases e
  rename_i Vb;obtain⟨el,ti,hu,Vz,hs,_⟩:=LJ hT Vb;have QW:=FE.sizeOf hT Vz w
  change VR E w σ.bx (.ref b p) v at hx
  obtain⟨a,cap,rfl,hle,_⟩:=AAZ hB st hx hq;obtain⟨l,h,ek,h1,h2,hr⟩:=UZ (P:=P) hle e hl hh true;refine⟨_,WK q.1.n l (h-l) a cap,ek,?_,?_⟩
  ·simp[Instr.sliceAt,Bh hu,Instr.slice,hr,QW,hs,WK]
  ·simp only[OU]at hq
   obtain⟨_,hx⟩:=hx;refine⟨by rfl,?_⟩;grind
 simp_all
omit hT in
theorem ck{f:Nat->Option AV}:∀{n j:Nat} {l:List AV},fS f j n=some l->l.length=n/\ ∀(i:Nat) x,l[i]? =some x->f (j+i)=some x
 |0,j,l,e=>by simp only[fS,AON]at e;subst e;simp
 |n+1,j,l,e=>by
  simp only[fS,AOc,AOP]at e;obtain⟨x,hx,l',hl,rfl⟩:=e;obtain⟨h1,h2⟩:=ck hl;refine⟨by simp[h1],fun i z hz=> ?_⟩;cases i with
  |zero=>simp at hz;subst hz;exact hx
  |succ i=>
   have:=h2 i z (by simpa using hz)
   rwa [show j+1+i=j+(i+1)by omega]at this
omit hT in
theorem Xx{B:Nat->Prop}{t:Ty}{x:t.D}{v:Value}(h:Rd w B t [v] x)(hs:t.scalar=true):VR E w vw (.v t x) v:=by
 refine⟨hs,?_⟩;cases t<;>first
  |(simpa only[Rd]using h)
  |(simp[Ty.scalar]at hs)
omit hT in
theorem ADg{s:Bool}{t:Ty}{x:t.D}{v:Value}(h:Rd w (if s then E.S else E.T) t [v] x):VR E w vw (AAe s ⟨t,x⟩) v:=by
 cases t with
 |sl r=>simp only[AAe,VR];exact h
 |int k=>exact Xx h rfl
 |bool=>exact Xx h rfl
 |str=>exact Xx h rfl
 |unit=>trivial
 |cons c r=>trivial
omit hT in
theorem oh{s:Xw}:∀{p:List Xw} {r:Ty} {rows:List r.D} {q:Ty} {ys:List q.D} {t:Ty} {x:List t.D},DT r rows p->HZ r rows p=some ⟨q,ys⟩->s.i<ys.length->s.sz=q.n->
  Ba q s.j (rowAt q ys s.i)=some ⟨.sl t,x⟩->DT r rows (p++[s])/\HZ r rows (p++[s])=some ⟨t,x⟩
 |[],r,rows,q,ys,t,x,_,hg,hi,hs,hc=>by
  simp only[HZ,AON,ARQ]at hg;obtain⟨rfl,e⟩:=hg;obtain rfl:=AU_ e;refine⟨?_,?_⟩
  ·simp only[AVJ,DT,hc]
   exact⟨hi,hs,trivial⟩
  ·simp only[AVJ,HZ,hc]
 |s'::p,r,rows,q,ys,t,x,hp,hg,hi,hs,hc=>by
  simp only[DT]at hp;obtain⟨h1,h2,hp⟩:=hp;simp only[HZ]at hg;split at hg
  ·rename_i q' x' jl
   rw[jl]at hp;obtain⟨a,b⟩:=oh hp hg hi hs hc;refine⟨?_,?_⟩
   ·simp only[AWJ,DT,jl]
    exact⟨h1,h2,a⟩
   ·simp only[AWJ,HZ,jl]
    exact b
  ·cases hg
omit hT in
theorem rN{s:Xw}:∀{p:List Xw} {h:Value} {b o len cap:Nat} {v:Value},JU w h p=some (.slice (some ⟨b,o,none⟩) len cap)->w.cell? ⟨b,o+s.i*s.sz+s.j,none⟩=some v->
  JU w h (p++[s])=some v
 |[],h,b,o,len,cap,v,e,hc=>by
  rw[DL]at e;cases e;simp[JU,hc,DL]
 |s'::p,h,b,o,len,cap,v,e,hc=>by
  cases h with
  |slice a l c=>
   cases a with
   |none=>simp[JU]at e
   |some a=>
    simp only[JU]at e;split at e
    ·rename_i h' hh
     simp only[AWJ,JU,hh];exact rN e hc
    ·cases e
  |_=>simp[JU]at e
omit hT in
theorem MQ{bx:List Bx}{Fs:List ABU}(hB:OG E w bx bx Fs)(st:∀c,E.S c->E.T c){x z:AV}{i:Nat}(e:Js bx x i=some z){v:Value}(hx:VR E w bx x v):
  ∃b o u,v= .pointer (some ⟨b,o,none⟩)/\w.cell? ⟨b,o+i,none⟩=some u/\VR E w bx z u:=by
 cases x with
 |I0 b j=>
  simp only[Js]at e;split at e
  ·rename_i cs hb
   obtain⟨F,⟨_,arr,ty,fr,ha,hu,hv⟩,_⟩:=hB.get hb;obtain⟨u,h1,h2⟩:=Cg.get hv e;refine⟨_,_,u,hx.2,?_,h2⟩;simp only[World.cell?,ha,AVb,AO5,ATF];simpa using h1
  ·cases e
 |Ju b p r sz j=>
  simp only[Js]at e;split at e
  ·rename_i d q rows hb
   split at e
   case isFalse=>cases e
   rename_i hd;simp only[AOc]at e;obtain⟨⟨q',wi⟩,hg,e⟩:=e;split at e
   case isFalse=>cases e
   rename_i QW;simp only[AOP]at e;obtain⟨⟨t,y⟩,hc,rfl⟩:=e;simp only[VR,hb]at hx;obtain⟨_,hp,q1,ys,bb,o,len,cap,g1,g2,g3,rfl⟩:=hx;rw[hg]at g1;simp only[AON,ARQ]at g1;obtain⟨rfl,g1⟩:=g1;obtain rfl:=AU_ g1;dsimp only at QW hc;obtain⟨F,⟨hd1,ho⟩,hF⟩:=hB.get hb;have ZH:=eg (Fg.refl bx) hB st hb hp hg g3;have Agz:=ZH;simp only[Rd]at ZH;obtain⟨a',cap',ee,hle,ZH⟩:=ZH;simp only[ATj,Value.slice.injEq,AVW]at ee;obtain⟨rfl,rfl,rfl⟩:=ee;rcases ZH with ZH|⟨b1,o1,e7,_,ZH⟩
   ·omega
   ·cases e7
    obtain⟨cs,c1,c2,c3⟩:=ZH r _ (SV g2);obtain⟨u,hu,hur⟩:=gK c3 hc;have bt:=c2 _ _ hu;rw[<-QW]at bt;refine⟨_,_,u,rfl,by rw[AV_];exact bt,?_⟩;cases t with
    |sl t' =>
     simp only[AA_];split
     ·rename_i hdd
      obtain⟨h',F1,F2,m1,m2,_,_⟩:=rh ho hp hg hd;rw[g3]at m1;cases m1;rw[show d-p.length=0+1 by omega]at m2;obtain⟨b2,o2,arr,ty,fr,cs2,G,R,e2,_,_,_,_,k2,k3,_,_⟩:=wX m2 g2;cases e2;obtain⟨v2,A1,A2,z1,z2,_,_⟩:=gQ k3 hc;have AE3:=k2 _ _ z1;rw[<-QW,bt]at AE3;cases AE3;simp only[Ow]at z2;simp only[VR];exact z2.1
     ·simp only[VR,hb]
      have:=oh (s:=⟨r,sz,j+i⟩) hp hg g2 QW hc;simp only[Rd]at hur;obtain⟨a2,cap2,e2,_⟩:=hur;simp only[ATj,AVW]at e2;refine⟨by rw[e2];rfl,this.1,⟨_,this.2⟩,rN g3 bt⟩
    |int k=>exact Xx hur rfl
    |bool=>exact Xx hur rfl
    |str=>exact Xx hur rfl
    |unit=>trivial
    |cons c r=>trivial
  ·cases e
 |QX s r y j=>
  simp only[Js,AOP]at e;obtain⟨⟨t,y'⟩,hc,rfl⟩:=e;obtain⟨bb,o,cs,rfl,h2,h3,h4,h5⟩:=hx;obtain⟨u,hu,hur⟩:=gK h5 hc;refine⟨_,_,u,rfl,by rw[AV_];exact h4 _ _ hu,ADg hur⟩
 |_=>simp[Js]at e
omit hT in
theorem fj{bx:List Bx}{Fs:List ABU}(hB:OG E w bx bx Fs)(st:∀c,E.S c->E.T c){x:AV}{v:Value}(hx:VR E w bx x v){b o:Nat}(hv:v= .pointer (some ⟨b,o,none⟩)):
  ∀{l:List AV} {j:Nat},(∀(i:Nat) z,l[i]? =some z->Js bx x (j+i)=some z)-> ∃cs:List Value,cs.length=l.length/\Bj w b (o+j) cs/\kM E w bx l cs
 |[],_,_=>⟨[],rfl,fun _ _ h=>by simp at h,trivial⟩
 |z::l,j,h=>by
  obtain⟨b',o',u,e1,e2,e3⟩:=MQ hB st (h 0 z rfl) hx;subst hv;simp only[Value.pointer.injEq,AON,Addr.mk.injEq,AVW]at e1;obtain⟨rfl,rfl⟩:=e1;obtain⟨cs,c1,c2,c3⟩:=fj hB st hx rfl (l:=l) (j:=j+1) (fun i y hy=>by
   have:=h (i+1) y (by simpa using hy)
   rwa [show j+1+i=j+(i+1)by omega])
  refine⟨u::cs,by simp[c1],fun i y hy=> ?_,e3,c3⟩;cases i with
  |zero=>simp at hy;subst hy;exact e2
  |succ i=>
   have:=c2 i y (by simpa using hy)
   rwa [show o+(j+1)+i=o+j+(i+1)by omega]at this
theorem xz{σ:St}{Fs:List ABU}(hB:OG E w σ.bx σ.bx Fs)(st:∀c,E.S c->E.T c){t:Nat}{x z:XV}(e:oW T t σ x=some z){v:Value}(hx:XR E w σ.bx x v):
  ∃u,(Instr.loadAt t v).run P w= .ok u w/\XR E w σ.bx z u:=by
 unfold oW at e;split at e
 case h_2=>cases e
 rename_i x ti Vz;split at e
 case isTrue=>cases e
 rename_i QW;have lk:=FE.isAgg hT Vz w;split at e
 ·rename_i ha
  rw[ha]at lk;simp only[AOP]at e;obtain⟨l,hl,rfl⟩:=e;obtain⟨h1,h2⟩:=ck hl;have h0:0<l.length:=by omega
  obtain⟨b,o,u,hv,_,_⟩:=MQ hB st (h2 0 _ (AOM h0)) hx;obtain⟨cs,c1,c2,c3⟩:=fj hB st hx hv (l:=l) (j:=0) (fun i y hy=>by simp_all);subst hv;have km:=(hT t ti Vz).und;cases hd:ti.desc with
  |st fs=>
   rw[hd]at km;obtain⟨fields,hu,_⟩:=km;refine⟨.agg cs.toArray,run_loadAt_mid w b o t cs _ (by grind[Bj,World.rangeAt]) hu rfl ?_,cs.toArray,rfl,by omega⟩;grind[FE.size]
  |_=>grind[TD.agg]
 ·rename_i ha
  simp only[ASw]at ha;rw[ha]at lk;simp only[AOP]at e;obtain⟨y,hy,rfl⟩:=e;obtain⟨b,o,u,hv,hc,hr⟩:=MQ hB st hy hx;subst hv;refine⟨u,?_,hr⟩;simp only[AW4]at hc;simp[Instr.loadAt,Instr.sureAddr,loadVar,lk,hc]
end
end Go.Fw
end
section
namespace Go.Fw
theorem qL{w:World}{S:Nat->Prop}{d:Nat}{q:Ty}:Ow w S d (.sl q) [.slice none 0 0] [] []:=by
 cases d with
 |zero=>simp only[Ow,Rd];simp_all
 |succ d=>simp only[Ow];simp_all
theorem AHg{w:World}{S:Nat->Prop}{d:Nat}{r:Ty}{a:Option Addr}{len cap:Nat}{ys:List r.D}{F:ABU}(h:Ow w S (d+1) (.sl r) [.slice a len cap] ys F){off n:Nat}(hn:off+n<=ys.length):
  ∃F1 F2,F.Perm (F1++F2)/\Ow w S (d+1) (.sl r) [WK r.n off n a cap] ((ys.drop off).take n) F1:=by
 simp only[Ow]at h|-;obtain⟨a',cap',e,hc,h⟩:=h;simp only[ATj,Value.slice.injEq,AVW]at e;obtain⟨rfl,rfl,rfl⟩:=e;have hl:((ys.drop off).take n).length=n:=by grind
 by_cases h0:cap=off
 ·subst h0
  refine⟨[],F,by simp,a,0,by simp[WK,hl],by omega,.inl ⟨rfl,rfl⟩⟩
 ·rcases h with⟨h,rfl⟩|⟨b,o,arr,ty,fr,Fs,rfl,hb,QW,hu,rfl,hFl,hr⟩
  ·omega
  ·have p:Fs.flatten.Perm (((Fs.drop off).take n).flatten++((Fs.take off).flatten++(Fs.drop (off+n)).flatten)):=by
    grind[List.drop_drop,List.take_append_drop,List.flatten_append,List.append_assoc,List.Perm.append_right,List.perm_append_comm]
   refine⟨b::((Fs.drop off).take n).flatten,(Fs.take off).flatten++(Fs.drop (off+n)).flatten,List.Perm.cons b p,some ⟨b,o+off*r.n,none⟩,cap-off,?_,by omega,.inr ⟨b,o+off*r.n,arr,ty,fr,_,rfl,hb,?_,hu,rfl,?_,?_⟩⟩
   ·grind[WK,Addr.add_eq]
   ·have:off*r.n+(cap-off)*r.n=cap*r.n:=by rw[<-AVn];grind
    omega
   all_goals grind
theorem Le.keep{E E':Env}(h:Le E E'){w:World}{vw:List Bx}(st:∀c,E.S c->E.T c):T8 E w vw E' w vw:=
 ⟨ATX _,fun b _=>by rw[h.Ia],h.T,h.S,st,fun _ _=>rfl,fun b d r rows _ e=>⟨d,rows,e,fun p hp q ys hg=>⟨hp,⟨ys,hg,rfl⟩,fun h' hh=>by rw[h.IZ];omega⟩⟩⟩
theorem DQ.share{E:Env}{w:World}{vw bx:List Bx}{F W G:ABU}(h:DQ E w vw bx (F++W++G)):
  let E':Env:={ E with S:=fun c=>E.S c\/c∈W,T:=fun c=>E.T c\/c∈W }
  Le E E'/\DQ E' w vw bx (F++G):=by
 intro E';have st:=h.st;have hle:Le E E':=⟨rfl,rfl,fun c hc=> .inl hc,fun c hc=> .inl hc,fun c hc=>hc.elim .inl fun h' => .inr (.inr h'),fun c hc=>hc.elim .inl fun h' => .inr (h.AG4 c (by simp[h']))⟩;refine⟨hle,?_⟩;obtain⟨Fs,⟨h1,h2⟩,h3⟩:=h;refine⟨Fs,⟨h1,fun k B F' hk hF=> ?_⟩,?_⟩
 ·have:=h2 k B F' hk hF
  cases B with
  |mem cs=>
   obtain⟨rfl,arr,ty,fr,a1,a2,a3⟩:=this;exact⟨rfl,arr,ty,fr,a1,a2,a3.imp fun _ _ hv=>Gi (hle.keep st) hv⟩
  |sl d r rows=>exact⟨this.1,En hle.S (fun _ _=>rfl) (fun _ _=>rfl) this.2⟩
  |dead=>exact this
 ·have h4:Sep E w (W++(Fs.flatten++(F++G))):=h3.perm (by
   grind)
  refine⟨(ARZ.1 h4.nodup).2.1,fun c hc ht=> ?_,fun c hc=>h4.lt c (by simp_all),fun c hc=>hc.imp (st c) id,fun c hc=>hc.elim (h4.eT c) fun h' =>h4.lt c (by simp[h'])⟩;rcases ht with ht|ht
  ·exact h4.free c (ARh.2 (.inr hc)) ht
  ·exact(ARZ.1 h4.nodup).2.2 c ht c hc rfl
structure Hi (E:Env) (w:World) (vw bx:List Bx) (G:ABU) (E':Env) (RX:List Bx) (F:ABU):Prop where
 le:Le E E'
 len:RX.length=bx.length
 within:∀(b:Nat) (B:Bx),RX[b]? =some B->B= .dead\/bx[b]? =some B
 boxes:DQ E' w vw RX (F++G)
theorem Hi.refl{E:Env}{w:World}{vw bx:List Bx}{G:ABU}(h:DQ E w vw bx G):Hi E w vw bx G E bx []:=
 ⟨Le.refl E,rfl,fun _ _ h=> .inr h,h⟩
theorem Fg.ql{E E':Env}{w:World}{vw bx RX:List Bx}{G F:ABU}(h:Fg bx vw)(k:Hi E w vw bx G E' RX F):Fg RX vw:=fun b B e=>
 (k.within b B e).elim .inl (h b B)
theorem cP{E:Env}{w:World}{vw bx:List Bx}{G:ABU}(h:DQ E w vw bx G)(hw:Fg bx vw){d:Nat}(hd:1<=d){t:Ty}{x:AV}{v:Value}(hv:VR E w vw x v){y:t.D}{RX:List Bx}{d':Nat}
  (e:fX d t x bx=some (y,RX,d')):1<=d'/\d'<=d/\ ∃E' F,Hi E w vw bx G E' RX F/\Ow w E'.S (d'-1) t [v] y F:=by
 unfold fX at e;split at e
 ·rename_i u z
  simp only[AOP,AUW]at e;obtain⟨z',e1,rfl,rfl,rfl⟩:=e;obtain⟨e2,e3⟩:=Ij e1;subst e2;subst e3;refine⟨hd,ATX _,E,[],Hi.refl h,?_⟩;obtain⟨hs,hr⟩:=hv;cases u<;>simp_all[Ty.scalar,Ow,Rd]
 ·split at e
  ·simp only[AON,AUW]at e
   obtain⟨rfl,rfl,rfl⟩:=e;simp only[VR]at hv;subst hv;exact⟨hd,ATX _,E,[],Hi.refl h,qL⟩
  simp_all
 ·rename_i r z
  split at e
  ·rename_i q
   simp only[AOP,AUW]at e;obtain⟨z',e1,rfl,rfl,rfl⟩:=e;obtain⟨e2,e3⟩:=Ij e1;subst e2;subst e3;refine⟨ATX _,hd,E,[],Hi.refl h,?_⟩;simp only[VR]at hv;simp only[Nat.sub_self,Ow];simp_all
  simp_all
 ·rename_i b
  split at e
  case h_2=>cases e
  rename_i q;split at e
  case h_2=>cases e
  rename_i db r z hb;simp only[AOP,AUW]at e;obtain⟨z',e1,rfl,rfl,rfl⟩:=e;obtain⟨e2,e3⟩:=Ij e1;subst e2;subst e3;obtain⟨F0,⟨hd1,ho⟩,hB⟩:=h.take hb;have hvv:v=E.IZ b:=by
   grind[VR,Zz,DL]
  subst hvv;obtain⟨F1,W,hp,y9⟩:=Ki (d:=min d (db+1)-1) (by omega) ho;have Uf:=hB.perm (AXU G hp);obtain⟨hle,ZI⟩:=Uf.share;refine⟨by omega,Nat.min_le_left _ _,_,F1,⟨hle,by simp,fun k B hk=> ?_,ZI⟩,y9⟩;grind
 ·rename_i b off n
  split at e
  case h_2=>cases e
  rename_i q;split at e
  case h_2=>cases e
  rename_i db r z hb;simp only[AOP,AUW]at e;obtain⟨z',e1,rfl,rfl,rfl⟩:=e;obtain⟨e2,e3⟩:=Ij e1;subst e2;subst e3;obtain⟨F0,⟨hd1,ho⟩,hB⟩:=h.take hb;simp only[VR,Zz hw hb,DL]at hv;obtain⟨_,_,q',ys,a,len,cap,hg,hn,hh,rfl⟩:=hv;simp only[HZ,AON,ARQ]at hg;obtain⟨rfl,hg⟩:=hg;obtain rfl:=AU_ hg;simp only[AON]at hh;rw[hh]at ho;obtain⟨db,rfl⟩:∃m,db=m+1:=⟨db-1,by omega⟩;obtain⟨A1,A2,hp0,ho0⟩:=AHg ho hn;obtain⟨F1,W,hp,y9⟩:=Ki (d:=min d (db+1+1)-1) (by omega) ho0;have hB1:DQ E w vw (bx.set b .dead) (A1++G):=by
   refine DQ.drop (G':=A2) (hB.perm ?_);grind
  have Uf:=hB1.perm (AXU G hp);obtain⟨hle,ZI⟩:=Uf.share;refine⟨by omega,Nat.min_le_left _ _,_,F1,⟨hle,by simp,fun k B hk=> ?_,ZI⟩,y9⟩;grind
 simp_all
theorem aR{w:World}{vw:List Bx}:∀{r:Ty} {E:Env} {bx:List Bx} {G:ABU} {d:Nat} {l:List AV} {vs:List Value} {y:r.D} {RX:List Bx} {d':Nat},DQ E w vw bx G->Fg bx vw->1<=d->
  kM E w vw l vs->cellsIn d r l bx=some (y,RX,d')->1<=d'/\d'<=d/\ ∃E' F,Hi E w vw bx G E' RX F/\Ow w E'.S (d'-1) r vs y F
 | .unit,E,bx,G,d,[],[],y,RX,d',h,hw,hd,_,e=>by
  simp only[cellsIn,AON,AUW]at e;obtain⟨_,rfl,rfl⟩:=e;exact⟨hd,ATX _,E,[],Hi.refl h,by simp only[Ow];simp_all⟩
 | .cons c r,E,bx,G,d,x::l,v::vs,y,RX,d',h,hw,hd,hv,e=>by
  simp only[cellsIn,AOc,AOP,AUW]at e;obtain⟨⟨y1,lr,d1⟩,e1,⟨y2,cI,d2⟩,e2,rfl,rfl,rfl⟩:=e;dsimp only at e2|-;obtain⟨a1,a2,E1,F1,k1,o1⟩:=cP h hw hd hv.1 e1;have yv:=k1.le.keep (w:=w) (vw:=vw) h.st;obtain⟨b1,b2,E2,F2,k2,o2⟩:=aR (G:=F1++G) k1.boxes (hw.ql k1) a1 (hv.2.imp fun _ _ h=>Gi yv h) e2;obtain⟨A,W,hp,o1'⟩:=Ki (d:=d'-1) (by omega) o1;have hB:=k2.boxes.perm (G':=(F2++A)++W++G) (by
   grind)
  obtain⟨hle,ZI⟩:=hB.share;refine⟨b1,AVG b2 a2,_,A++F2,⟨(k1.le.trans k2.le).trans hle,k2.len.trans k1.len,fun b B hb=>(k2.within b B hb).elim .inl (k1.within b B),ZI.perm (AXU _ List.perm_append_comm)⟩,?_⟩;simp only[Ow];refine⟨v,vs,A,F2,rfl,rfl,?_,?_⟩
  ·refine En (S:=fun b=>E1.S b\/b∈W) ?_ (fun _ _=>rfl) (fun _ _=>rfl) o1'
   intro c hc;exact hc.elim (fun h=> .inl (k2.le.S c h)) .inr
  ·refine En (S:=E2.S) ?_ (fun _ _=>rfl) (fun _ _=>rfl) o2
   simp_all
 | .unit,_,_,_,_,_::_,_,_,_,_,_,_,_,_,e=>by simp[cellsIn]at e
 | .unit,_,_,_,_,[],_::_,_,_,_,_,_,_,hv,_=>hv.elim
 | .cons _ _,_,_,_,_,[],_,_,_,_,_,_,_,_,e=>by simp[cellsIn]at e
 | .cons _ _,_,_,_,_,_::_,[],_,_,_,_,_,_,hv,_=>hv.elim
 | .int _,_,_,_,_,_,_,_,_,_,_,_,_,_,e=>by simp[cellsIn]at e
 | .bool,_,_,_,_,_,_,_,_,_,_,_,_,_,e=>by simp[cellsIn]at e
 | .str,_,_,_,_,_,_,_,_,_,_,_,_,_,e=>by simp[cellsIn]at e
 | .sl _,_,_,_,_,_,_,_,_,_,_,_,_,_,e=>by simp[cellsIn]at e
theorem wP{E:Env}{w:World}{vw:List Bx}{x:AV}{v:Value}(h:VR E w vw x v)(hk:x.known=true):v.oneCell' =true/\v.cells= #[v]:=by
 have aux:∀{v:Value},isSlice v=true->v.oneCell' =true/\v.cells= #[v]:=by intro v h;cases v<;>simp_all[isSlice,Value.oneCell',Value.cells]
 have Acp:∀{v:Value},eD v=true->v.oneCell' =true/\v.cells= #[v]:=by intro v h;cases v<;>simp_all[eD,Value.oneCell',Value.cells]
 cases x with
 |v t y=>
  obtain⟨hs,hr⟩:=h;cases t<;>simp[Ty.scalar]at hs<;>simp only[Rd,ATj,AVW]at hr<;>subst hr<;>exact⟨rfl,rfl⟩
 |sl s r y=>
  simp only[VR,Rd]at h;obtain⟨a,cap,h,_⟩:=h;simp only[ATj,AVW]at h;subst h;exact⟨rfl,rfl⟩
 |nil=>simp only[VR]at h;subst h;exact⟨rfl,rfl⟩
 |ref b p=>exact aux h.1
 |win b p off n=>exact aux h.1
 |I0 b j=>rw[h.2];exact⟨rfl,rfl⟩
 |Ju b p i sz j=>exact Acp h.1
 |QX s r y j=>obtain⟨bb,o,cs,rfl,_⟩:=h;exact⟨rfl,rfl⟩
 |fn f LO=>rw[h.2];exact⟨rfl,rfl⟩
 |sf f rows=>obtain⟨ps,rfl,_⟩:=h;exact⟨rfl,rfl⟩
 |AAc=>simp only[VR]at h;subst h;exact⟨rfl,rfl⟩
 |undef=>simp[AV.known]at hk
theorem AB0{E:Env}{w:World}{vw:List Bx}:∀{l:List AV} {vs:List Value},kM E w vw l vs->l.all AV.known=true-> ∀v∈vs,v.oneCell' =true
 |[],[],_,_=>by simp
 |x::l,v::vs,h,hk=>by
  simp only[AVl,AOw]at hk;intro u hu;rcases ASY.1 hu with rfl|hu
  ·exact(wP h.1 hk.1).1
  ·exact AB0 h.2 hk.2 u hu
theorem qp{E:Env}{w:World}{vw:List Bx}{x:XV}{v:Value}(h:XR E w vw x v)(hk:x.cells.all AV.known=true)(hn:x.cells≠[]):kM E w vw x.cells v.cells.toList/\ ∀u∈v.cells.toList,u.oneCell' =true:=by
 cases x with
 |c x=>
  have h':VR E w vw x v:=h;obtain⟨h1,h2⟩:=wP h' (by grind[XV.cells]);rw[h2];exact⟨⟨h',trivial⟩,by simp_all⟩
 |agg l=>
  obtain⟨vs,rfl,Wy⟩:=h;exact⟨Wy,AB0 Wy hk⟩
 |NW l=>simp[XV.cells]at hn
theorem yy{w:World}{vw:List Bx}{r:Ty}{E:Env}{bx:List Bx}{G:ABU}{d:Nat}{x:XV}{v:Value}{y:r.D}{RX:List Bx}{d':Nat}(h:DQ E w vw bx G)(hw:Fg bx vw)(hd:1<=d)
  (hv:XR E w vw x v) (e:AEo d r x bx=some (y,RX,d')):1<=d'/\d'<=d/\ ∃E' F,Hi E w vw bx G E' RX F/\Ow w E'.S (d'-1) r v.cells.toList y F:=by
 unfold AEo at e;split at e
 ·rename_i l
  obtain⟨vs,rfl,Wy⟩:=hv;exact aR h hw hd Wy e
 ·rename_i x
  have Zh:VR E w vw x v:=hv;have hk:x.known=true:=by grind[AV.known,fX]
  rw[(wP Zh hk).2];exact cP h hw hd Zh e
 simp_all
end Go.Fw
end
section
namespace Go.Fw
def Env.cR(E:Env)(n:Nat)(h:Value):Env:={ E with IZ:=fun k=>if k=n then h else E.IZ k }
def Env.gY(E:Env)(n b:Nat):Env:={ E with Ia:=fun k=>if k=n then b else E.Ia k }
theorem ik{E E1 E':Env}{w w':World}{vw lr RX:List Bx}{F:ABU}(k:Hi E w vw vw [] E1 lr F)(st:∀c,E.S c->E.T c)(hlen:vw.length<=RX.length)
  (wg:∀b B,b<vw.length->RX[b]? =some B->lr[b]? =some B) (AGL:∀b,b<vw.length->E'.Ia b=E1.Ia b) (pD:∀b,b<vw.length->E'.IZ b=E1.IZ b) (hT:E'.T=E1.T) (hS:E'.S=E1.S)
  (hw:∀c,c<w.heap.size->c∉F->w'.heap[c]? =w.heap[c]?):T8 E w vw E' w' RX:=by
 have hB:=k.boxes;obtain⟨Fs,⟨h1,h2⟩,h3⟩:=hB;simp only[AQO]at h3;have zB:∀c,E1.T c->w'.heap[c]? =w.heap[c]?:=fun c hc=>hw c (h3.eT c hc) fun hf=>h3.free c (by simp[hf]) hc
 refine⟨hlen,fun b hb=>by rw[AGL b hb,k.le.Ia],fun c hc=>by rw[hT];exact k.le.T c hc,fun c hc=>by rw[hS];exact k.le.S c hc,st,fun c hc=>zB c (k.le.T c hc),fun b d r rows hb e=> ?_⟩;have e1:=wg b _ hb e;rcases k.within b _ e1 with e2|e2
 ·cases e2
 ·refine⟨d,rows,e2,fun p hp q ys hg=>⟨hp,⟨ys,hg,rfl⟩,fun h' hh=> ?_⟩⟩
  have hF:Fs[b]? =some (Fs[b]'(by grind)):=AOM _;obtain⟨hd,ho⟩:=h2 b _ _ e1 hF;rw[pD b hb];rw[<-k.le.IZ]at hh;refine v7 ho (fun c hc=>zB c (h3.st c hc)) (fun c hc=> ?_) hp hg hh;have VP:c∈Fs.flatten:=AVK.2 ⟨_,ASU hF,hc⟩;exact hw c (h3.lt c (by simp[VP])) fun hf=>(ARZ.1 h3.nodup).2.2 c VP c hf rfl
structure Grown (w w':World):Prop where
 os:w'.os=w.os
 tape:w'.tape=w.tape
 output:w'.output=w.output
 size:w.heap.size<=w'.heap.size
theorem Uh{E E1:Env}{σ:St}{a:Act}{w w':World}{lr:List Bx}{F F':ABU}(h:Rel E σ a w)(k:Hi E w σ.bx σ.bx [] E1 lr F){v:Value}{d:Nat}{r:Ty}{rows:List r.D}(hd:1<=d)
  (ho:Ow w' E1.S d (.sl r) [v] rows F') (hF':∀c∈F',c∈F\/w.heap.size<=c) (nd:F'.Nodup) (Ha:∀c∈F',c<w'.heap.size) (hw:∀c,c<w.heap.size->c∉F->w'.heap[c]? =w.heap[c]?) (g:Grown w w'):
  let E':=E1.cR lr.length v
  Rel E' { σ with bx:=lr++[.sl d r rows] } a w'/\Sk [] E σ.bx w E' (lr++[.sl d r rows]) w'/\XR E' w' (lr++[.sl d r rows]) (.c (.ref lr.length [])) v:=by
 intro E';have st:=h.bx.st;have hn:=k.len;have keep:T8 E w σ.bx E' w' (lr++[.sl d r rows]):=ik k st (by simp[hn]) (fun b B hb e=>by
   grind) (fun b _=>rfl) (fun b hb=>by grind[Env.cR]) rfl rfl hw
 have yv:T8 E1 w σ.bx E' w' (lr++[.sl d r rows]):=by
  have k':Hi E1 w σ.bx σ.bx [] E1 lr F:=⟨Le.refl _,k.len,k.within,k.boxes⟩;exact ik k' k.boxes.st (by simp[hn]) (fun b B hb e=>by
   grind) (fun b _=>rfl) (fun b hb=>by grind[Env.cR]) rfl rfl hw
 obtain⟨Fs,⟨h1,h2⟩,h3⟩:=k.boxes;simp only[AQO]at h3;have zB:∀c,E1.T c->w'.heap[c]? =w.heap[c]?:=fun c hc=>hw c (h3.eT c hc) fun hf=>h3.free c (by simp[hf]) hc
 have hF0:∀c∈Fs.flatten,w'.heap[c]? =w.heap[c]?:=fun c hc=>hw c (h3.lt c (by simp[hc])) fun hf=>(ARZ.1 h3.nodup).2.2 c hc c hf rfl
 refine⟨⟨h.Od,h.tm.imp fun _ _ hx=>P5 keep hx,?_⟩,?_,?_⟩
 ·refine⟨Fs++[F'],⟨by simp[h1],fun n B G hB hG=> ?_⟩,?_⟩
  ·by_cases w6:n<lr.length
   ·rw[AR1 w6]at hB
    rw[AR1 (by omega)]at hG;have:=h2 n B G hB hG;have hGw:∀c∈G,w'.heap[c]? =w.heap[c]?:=fun c hc=>hF0 c (AVK.2 ⟨G,ASU hG,hc⟩)
    cases B with
    |mem cs=>
     obtain⟨rfl,arr,ty,fr,a1,a2,a3⟩:=this;exact⟨rfl,arr,ty,fr,(hGw (E1.Ia n) (by simp)).trans a1,a2,a3.imp fun _ _ hv=>Gi yv hv⟩
    |sl d0 r0 S7=>
     refine⟨this.1,?_⟩;have e0:E'.IZ n=E1.IZ n:=by grind[Env.cR]
     rw[e0];exact En (fun _ hc=>hc) (fun c hc=>zB c (h3.st c hc)) hGw this.2
    |dead=>exact this
   ·have hnn:=(AOS.1 hB).1
    simp at hnn;obtain rfl:n=lr.length:=by omega
    rw[ASa (by omega)]at hB hG;simp[h1]at hB hG;subst hB hG;refine⟨hd,?_⟩;grind[Env.cR]
  ·simp only[AVq,AWn,AYn,AQO]
   have nd0:=ARZ.1 h3.nodup;refine⟨ARZ.2 ⟨nd0.1,nd,fun x hx y hy e=> ?_⟩,fun c hc ht=> ?_,fun c hc=> ?_,h3.st,fun c hc=>AVS (h3.eT c hc) g.size⟩
   ·grind
   ·rcases ARh.1 hc with hc|hc
    ·exact h3.free c (by simp[hc]) ht
    ·rcases hF' c hc with h|h
     ·exact h3.free c (by simp[h]) ht
     ·have:=h3.eT c ht;omega
   ·rcases ARh.1 hc with hc|hc
    ·exact AVS (h3.lt c (by simp[hc])) g.size
    simp_all
 ·refine⟨⟨k.le.T,k.le.S,k.le.Tof,k.le.Sof,fun c hc=>zB c (k.le.T c hc),g.os,g.tape,g.output,g.size⟩,by simp[hn],fun b hb=>⟨by show E1.Ia b=_;rw[k.le.Ia],?_⟩,fun b hb=> ?_,fun n B B' _ hB Uf hnd=> ?_⟩
  ·have:E'.IZ b=E1.IZ b:=by grind[Env.cR]
   rw[this,k.le.IZ]
  ·have hbl:=(AOS.1 hb).1
   rw[AR1 (by omega)];obtain⟨B,hB⟩:∃B,lr[b]? =some B:=⟨_,AOM (by omega)⟩;rcases k.within b B hB with e|e
   all_goals simp_all
  ·have w6:=(AOS.1 hB).1
   rw[AR1 (by omega)]at Uf;rcases k.within n B' Uf with e|e
   ·simp_all
   rw[hB]at e;cases e;refine⟨WS.refl hnd,fun c hc=> ?_⟩;have hF:Fs[n]? =some (Fs[n]'(by omega)):=AOM _;have hR:=h2 n B _ Uf hF;have eS:y_ E1 w n B c:=by
    cases B with
    |mem cs=>simp only[y_]at hc|-;rw[k.le.Ia];omega
    |sl d r rows=>simp only[y_]at hc|-;rw[k.le.IZ];omega
    |dead=>exact hc
   rcases gH hR eS with hs|hs
   ·exact zB c (h3.st c hs)
   grind[List.mem_flatten,List.mem_of_getElem?]
 ·have e0:E'.IZ lr.length=v:=by simp[E',Env.cR]
  refine⟨?_,?_⟩
  ·have:=Ye ho
   simp only[Rd]at this;obtain⟨_,_,e,_⟩:=this;simp only[ATj,AVW]at e;rw[e];rfl
  ·have:(lr++[Bx.sl d r rows])[lr.length]? =some (.sl d r rows):=by simp
   rw[this];exact⟨by simp[DT],⟨_,rfl⟩,by rw[e0,DL]⟩
theorem qV{E:Env}{σ:St}{a:Act}{w:World}(h:Rel E σ a w){cs:List AV}{arr:Array Value}(ty:TypeId)(hv:kM E w σ.bx cs arr.toList):
  let E':=E.gY σ.bx.length w.heap.size
  let w':=w.alloc (.cells arr ty)
  Rel E' (σ.new (.mem cs)) a w'/\Sk [] E σ.bx w E' (σ.new (.mem cs)).bx w'/\XR E' w' (σ.new (.mem cs)).bx (.c (.I0 σ.bx.length 0)) (.pointer (some ⟨w.heap.size,0,none⟩)):=by
 intro E' w';have st:=h.bx.st;have hw:∀c,c<w.heap.size->c∉([]:ABU)->w'.heap[c]? =w.heap[c]?:=fun c hc _=>by
  show(w.heap.push (.cells arr ty))[c]? =_
  grind
 have hB0:=h.bx;have keep:T8 E w σ.bx E' w' (σ.bx++[.mem cs]):=ik (Hi.refl hB0) st (by simp) (fun b B hb e=>by
   grind) (fun b hb=>by grind[Env.gY]) (fun b _=>rfl) rfl rfl hw
 obtain⟨Fs,⟨h1,h2⟩,h3⟩:=h.bx;simp only[AQO]at h3;have new:w'.heap[w.heap.size]? =some (.cells arr ty):=by
  show(w.heap.push (.cells arr ty))[w.heap.size]? =_
  simp
 refine⟨⟨h.Od,h.tm.imp fun _ _ hx=>P5 keep hx,?_⟩,?_,?_⟩
 ·refine⟨Fs++[[w.heap.size]],⟨by simp[St.new,h1],fun n B G hB hG=> ?_⟩,?_⟩
  ·simp only[St.new]at hB
   by_cases w6:n<σ.bx.length
   ·rw[AR1 w6]at hB
    rw[AR1 (by omega)]at hG;have:=h2 n B G hB hG;have hGw:∀c∈G,w'.heap[c]? =w.heap[c]?:=fun c hc=>hw c (h3.lt c (by simp;grind)) (by simp)
    have eb:E'.Ia n=E.Ia n:=by grind[Env.gY]
    cases B with
    |mem cs0=>
     obtain⟨rfl,arr0,ty0,fr,a1,a2,a3⟩:=this;refine⟨by rw[eb],arr0,ty0,fr,?_,a2,a3.imp fun _ _ hv=>Gi keep hv⟩;simp_all
    |sl d0 r0 S7=>exact⟨this.1,En (fun _ hc=>hc) (fun c hc=>hw c (h3.eT c (st c hc)) (by simp)) hGw this.2⟩
    |dead=>exact this
   ·have hnn:=(AOS.1 hB).1
    simp at hnn;obtain rfl:n=σ.bx.length:=by omega
    rw[ASa (by omega)]at hB hG;simp[h1]at hB hG;subst hB hG;have eb:E'.Ia σ.bx.length=w.heap.size:=by simp[E',Env.gY]
    refine⟨by rw[eb],arr,ty,(0,0),by simp_all,fun i _ h=>by omega,hv.imp fun _ _ hv=>Gi keep hv⟩
  ·simp only[AVq,AWn,AYn,AQO]
   refine⟨ARZ.2 ⟨h3.nodup,by simp,fun x hx y hy e=> ?_⟩,fun c hc ht=> ?_,fun c hc=> ?_,h3.st,fun c hc=> ?_⟩
   ·subst e
    simp at hy;have:=h3.lt x hx;omega
   ·rcases ARh.1 hc with hc|hc
    ·exact h3.free c hc ht
    ·simp at hc;have:=h3.eT c ht;omega
   ·rcases ARh.1 hc with hc|hc
    ·have:=h3.lt c hc;grind
    grind
   ·have:=h3.eT c hc;grind
 ·refine⟨⟨fun _ h=>h,fun _ h=>h,fun _ h=> .inl h,fun _ h=> .inl h,fun c hc=>hw c (h3.eT c hc) (by simp),rfl,rfl,rfl,by simp[w']⟩,by simp[St.new],fun b hb=>⟨?_,rfl⟩,fun b hb=> ?_,fun n B B' _ hB Uf hnd=> ?_⟩
  ·grind[Env.gY]
  ·grind[List.getElem?_eq_some_iff,St.new,List.getElem?_append_left]
  ·have w6:=(AOS.1 hB).1
   simp only[St.new]at Uf;rw[AR1 w6,hB]at Uf;cases Uf;refine⟨WS.refl hnd,fun c hc=> ?_⟩;have hF:Fs[n]? =some (Fs[n]'(by omega)):=AOM _;rcases gH (h2 n B _ hB hF) hc with hs|hs
   ·exact hw c (h3.eT c (st c hs)) (by simp)
   ·exact hw c (h3.lt c (AVK.2 ⟨_,ASU hF,hs⟩)) (by simp)
 ·refine⟨by simp[St.new],?_⟩
  simp[E',Env.gY]
end Go.Fw
end
section
namespace Go.Fw
theorem HM:∀r:Ty,(E8 r).length=r.n
 | .cons c r=>by simp[E8,Ty.n,HM r]
 | .unit=>rfl
 | .int _=>rfl
 | .bool=>rfl
 | .str=>rfl
 | .sl _=>rfl
theorem bf{E:Env}{w:World}{vw:List Bx}(t:Ty):VR E w vw (zO t) (zv t):=by
 cases t<;>first
  |exact VR.int _ _
  |exact VR.bool _
  |exact VR.str _
  |rfl
  |trivial
theorem Ze{E:Env}{w:World}{vw:List Bx}:∀r:Ty,kM E w vw (cY r) (E8 r)
 | .cons c r=>⟨bf c,Ze r⟩
 | .unit=>trivial
 | .int k=>⟨bf (.int k),trivial⟩
 | .bool=>⟨bf .bool,trivial⟩
 | .str=>⟨bf .str,trivial⟩
 | .sl r=>⟨bf (.sl r),trivial⟩
theorem gZ{w:World}{S:Nat->Prop}{d:Nat}:∀{r:Ty},r.wS=true->Ow w S d r (E8 r) r.z []
 | .cons c r,h=>by
  simp only[Ty.wS,AOw]at h;simp only[Ow,E8];refine⟨_,_,[],[],rfl,rfl,?_,gZ h.2⟩;cases c with
  |sl q=>exact qL
  |int k=>simp[Ow,zv,Ty.z]
  |bool=>simp[Ow,zv,Ty.z]
  |str=>simp[Ow,zv,Ty.z]
  |unit=>simp[Ty.cell]at h
  |cons _ _=>simp[Ty.cell]at h
 | .unit,_=>by simp[Ow,E8]
 | .int k,_=>by simp[Ow,E8,zv,Ty.z]
 | .bool,_=>by simp[Ow,E8,zv,Ty.z]
 | .str,_=>by simp[Ow,E8,zv,Ty.z]
 | .sl q,_=>qL
theorem Zf{n:Nat}:∀{css:List (List Value)} {ex:List Value} {i j:Nat} {cs:List Value},(∀c∈css,c.length=n)->css[i]? =some cs->j<n->(css.flatten++ex)[i*n+j]? =cs[j]?
 |[],_,_,_,_,_,h,_=>by simp at h
 |c::css,ex,0,j,cs,hl,h,hj=>by
  grind
 |c::css,ex,i+1,j,cs,hl,h,hj=>by
  have hc:=hl c (by simp);have ih:=Zf (css:=css) (ex:=ex) (i:=i) (j:=j) (cs:=cs) (fun c' eS=>hl c' (AZ1 _ eS)) (by simp_all) hj;simp only[AWn,AQM];rw[ASa (by grind),<-ih];congr 1;grind
theorem pR{w:World}{b:Nat}{arr:Array Value}{ty:TypeId}{fr:AD9}(hb:w.heap[b]? =some (.cells arr ty fr)){n:Nat}{css:List (List Value)}{ex:List Value}(ha:arr.toList=css.flatten++ex)
  (hl:∀c∈css,c.length=n) {i:Nat} {cs:List Value} (h:css[i]? =some cs):Bj w b (i*n) cs:=by
 intro j v hj;have hjn:j<n:=by
  grind
 simp only[World.cell?,hb,AVb,AO5,ATF];rw[<-Array.getElem?_toList,ha,Zf hl h hjn,hj]
theorem en{w:World}{S:Nat->Prop}{d b cap:Nat}{r:Ty}{rows:List r.D}{arr:Array Value}{ty:TypeId}{fr:AD9}(hb:w.heap[b]? =some (.cells arr ty fr)){css:List (List Value)}{ex:List Value}
  (ha:arr.toList=css.flatten++ex) (hc:css.length=rows.length) (AAX:rows.length<=cap) (QW:cap*r.n<=arr.size) (hu:w_ fr (arr.size+mk r)) {Fs:List ABU} (hF:Fs.length=rows.length)
  (dZ:∀(i:Nat) cs y G,css[i]? =some cs->rows[i]? =some y->Fs[i]? =some G->Ow w S d r cs y G):
  Ow w S (d+1) (.sl r) [.slice (some ⟨b,0,none⟩) rows.length cap] rows (b::Fs.flatten):=by
 have hl:∀c∈css,c.length=r.n:=by
  intro c eS;obtain⟨i,hi,rfl⟩:=AVO eS;exact YB (dZ i _ _ _ (AOM hi) (AOM (by omega)) (AOM (by omega)))
 simp only[Ow];refine⟨_,cap,rfl,AAX,.inr ⟨b,0,arr,ty,fr,Fs,rfl,hb,by omega,hu,rfl,hF,fun i y G hy hG=> ?_⟩⟩;have hi:i<css.length:=by
  grind
 refine⟨css[i],hl _ (AO7 hi),?_,dZ i _ y G (AOM hi) hy hG⟩;rw[AVt];grind[pR,List.getElem?_eq_getElem]
theorem Xt(n:Nat):w_ (0,0) n:=fun i _ h=>by omega
theorem JV{w:World}{o:Obj}{c:Nat}(h:c<w.heap.size):(w.heap.push o)[c]? =w.heap[c]?:=by
 grind
section
variable{Y:Type} {P:Program} {T:KS} (hT:FE P T) {o:Oper} {E:Env} {σ:St} {a:Act} {w:World} {k:K Y} {y:Y}
theorem AGN(h:Rel E σ a w){t:TypeId}{x:Operand}(ho:o.op= .box t x)(hk:(σ.ev x).cells.all AV.known=true)(hn:(σ.ev x).cells≠[])(e:k (.c (.I0 σ.bx.length 0)) (σ.new (.mem (σ.ev x).cells))=some y):
  Ma P o E σ a w k y:=by
 obtain⟨h1,h2⟩:=qp (h.ev x) hk hn;obtain⟨r1,r2,r3⟩:=qV h t h1;refine⟨_,_,_,_,_,.inl ?_,r1,r3,r2.any,rfl,e⟩;simp only[execOp,ho,Instr.box,newVar,newRow,Sem.run_bind,run_newObj,Result.andThen_ok,Sem.run_pure];rfl
include hT
theorem row_zero{t:Nat}{r:Ty}(e:T.j6 t=some r):∃i z,P.info? t=some i/\i.zero=some z/\z.cells.toList=E8 r/\r.wS=true:=by
 unfold KS.j6 at e;split at e
 ·rename_i ti Vz
  obtain⟨i,h1,_,_,h2⟩:=(hT t ti Vz).info;simp_all
 simp_all
theorem AAf(h:Rel E σ a w){t:TypeId}(ho:o.op= .alloc t){r:Ty}(hr:T.j6 t=some r)(e:k (.c (.I0 σ.bx.length 0)) (σ.new (.mem (cY r)))=some y):Ma P o E σ a w k y:=by
 obtain⟨i,z,h1,h2,h3,_⟩:=row_zero hT hr;obtain⟨r1,r2,r3⟩:=qV (arr:=z.cells) h t (by rw[h3];exact Ze r);refine⟨_,_,_,_,_,.inl ?_,r1,r3,r2.any,rfl,e⟩;simp only[execOp,ho,Instr.alloc,zeroValue,typeInfo,newVar,newRow,Sem.run_bind,run_program,Result.andThen_ok,h1,h2,run_newObj,Sem.run_pure];rfl
end
end Go.Fw
end
section
namespace Go.Fw
def Fc(arr:Array Value):Nat->List Value->Array Value
 |_,[]=>arr
 |o,c::l=>Fc (arr.setIfInBounds o c) (o+1) l
theorem Fy:∀(l:List Value) (o:Nat) (arr:Array Value),(Fc arr o l).size=arr.size
 |[],_,_=>rfl
 |c::l,o,arr=>by simp[Fc,Fy l]
theorem rv(off:Nat):∀(l:List Value) (k:Nat) (arr:Array Value),(l.zipIdx k).foldl (fun cs (q:Value×Nat)=>cs.setIfInBounds (off+q.2) q.1) arr=Fc arr (off+k) l
 |[],_,_=>rfl
 |c::l,k,arr=>by
  simp only[List.zipIdx_cons,List.foldl_cons,Fc];rw[rv off l (k+1)];rfl
theorem Yg{E:Env}{w:World}{vw:List Bx}:∀{xs:List AV} {vs:List Value} {cs eY:List AV} {arr:Array Value} {o:Nat},kM E w vw cs arr.toList->kM E w vw xs vs->Yx cs o xs=some eY->
  kM E w vw eY (Fc arr o vs).toList/\o+xs.length<=cs.length\/(xs=[]/\eY=cs)
 |[],[],cs,eY,arr,o,h,_,e=>by simp only[Yx,AON]at e;simp_all
 |x::xs,v::vs,cs,eY,arr,o,h,hx,e=>by
  simp only[Yx]at e;split at e
  case isFalse=>cases e
  rename_i ho;have h1:kM E w vw (cs.set o x) (arr.setIfInBounds o v).toList:=by
   rw[Array.toList_setIfInBounds];exact Cg.set h hx.1
  rcases Yg h1 hx.2 e with⟨h2,h3⟩|⟨rfl,rfl⟩
  ·refine .inl ⟨h2,?_⟩
   grind
  ·cases vs with
   |nil=>exact .inl ⟨h1,by grind⟩
   |cons _ _=>exact hx.2.elim
 |[],_::_,_,_,_,_,_,hx,_=>hx.elim
 |_::_,[],_,_,_,_,_,hx,_=>hx.elim
section
variable{Y:Type} {P:Program} {T:KS} (hT:FE P T) {o:Oper} {E:Env} {σ:St} {a:Act} {w:World} {k:K Y} {y:Y}
def zY(E:Env)(w:World)(vw:List Bx)(l:List (Nat×XV))(m:List (Nat×Value)):Prop:=Cg (fun x v=>x.1=v.1/\XR E w vw x.2 v.2) l m
theorem sV(h:Rel E σ a w)(ps:Array (Nat×Operand)):zY E w σ.bx (ps.toList.map fun q=>(q.1,σ.ev q.2)) (ps.map fun(i,x)=>(i,a.eval x)).toList:=by
 rw[Array.toList_map]
 generalize ps.toList=l
 induction l with
 |nil=>trivial
 |cons q l ih=>exact⟨⟨rfl,h.ev q.2⟩,ih⟩
theorem uN{place:Nat->Option AD9}{i off size:Nat}(hp:place i=some (off,size)){cells:Array Value}{v:Value}{rest:List (Nat×Value)}(h1:v.cells.size=size)(h2:off+v.cells.size<=cells.size):
  Instr.fill place cells ((i,v)::rest)=Instr.fill place (Fc cells off v.cells.toList) rest:=by
 have e:v.cells.zipIdx.foldl (fun cs (q:Value×Nat)=>cs.setIfInBounds (off+q.2) q.1) cells=Fc cells off v.cells.toList:=by
  rw[<-Array.foldl_toList];have:(v.cells.zipIdx).toList=v.cells.toList.zipIdx:=by simp
  rw[this];exact rv off v.cells.toList 0 cells
 conv=>lhs;unfold Instr.fill
 grind
theorem sK{α β:Type}{f:α->Option β}{g:α->β}:∀{l:List α},(∀x∈l,f x=some (g x))->l.mapM f=some (l.map g)
 |[],_=>rfl
 |x::l,h=>by
  simp only[AZ9,h x (by simp),sK (l:=l) (g:=g) (fun y hy=>h y (by simp[hy]))];rfl
include hT
theorem cL{fs:List AD9}{vw:List Bx}:∀{parts:List (Nat×XV)} {vals:List (Nat×Value)} {cs eY:List AV} {arr:Array Value},zY E w vw parts vals->kM E w vw cs arr.toList->jc T fs cs parts=some eY->
  ∃LP:Array Value,Instr.fill (fun i=>(fs[i]?).bind fun q=>((P.info? q.2).map fun i=>(q.1,i.size))) arr vals=some LP/\kM E w vw eY LP.toList
 |[],[],cs,eY,arr,_,h,e=>by
  simp only[jc,AON]at e;subst e;exact⟨arr,rfl,h⟩
 |(i,x)::ps,(j,v)::vs,cs,eY,arr,hp,h,e=>by
  obtain⟨⟨hij,hx⟩,hp⟩:=hp;simp only at hij hx;subst hij;simp only[jc]at e;split at e
  case h_2=>cases e
  rename_i off u hf;split at e
  case h_2=>cases e
  rename_i ti Vz;split at e
  case isFalse=>cases e
  rename_i hc;obtain⟨c1,c2,c3⟩:=hc;simp only[AOc]at e;obtain⟨cs1,e1,e2⟩:=e;have ew:x.cells≠[]:=by grind
  obtain⟨x1,x2⟩:=qp hx c3 ew;rcases Yg h x1 e1 with⟨s1,s2⟩|⟨s1,_⟩
  ·have QW:v.cells.size=ti.size:=by
    have:=x1.len;simp_all
   have hlen:=h.len;obtain⟨LP,f1,f2⟩:=cL hp s1 e2;refine⟨LP,?_,f2⟩;have AaY:(fun i=>(fs[i]?).bind fun q=>((P.info? q.2).map fun i=>(q.1,i.size))) i=some (off,ti.size):=by
    have:=FE.size hT Vz;simp_all
   grind[uN]
  simp_all
 |[],_::_,_,_,_,hp,_,_=>hp.elim
 |_::_,[],_,_,_,hp,_,_=>hp.elim
theorem zo(h:Rel E σ a w){t:TypeId}{ps:Array (Nat×Operand)}(ho:o.op= .build t ps){s b:Nat}{fs:List AD9}{rw:Option Ty}(Vz:T.get t=some ⟨s,b,.st fs,rw⟩){r:Ty}(hr:T.j6 t=some r)
  {cs:List AV} (hb:jc T fs (cY r) (ps.toList.map fun q=>(q.1,σ.ev q.2))=some cs) (e:k (.agg cs) σ=some y):Ma P o E σ a w k y:=by
 obtain⟨i,z,h1,h2,h3,_⟩:=row_zero hT hr;obtain⟨fields,hu,hfs,QW⟩:=ALN hT Vz;obtain⟨LP,f1,f2⟩:=cL hT (sV h ps) (arr:=z.cells) (by grind[Ze]) hb;refine Ma.same h (v:= .agg LP) (x:= .agg cs) ?_ ⟨LP,rfl,f2⟩ e
 have hb:P.built t (ps.map fun(i,x)=>(i,a.eval x)).toList=some LP:=by
  unfold Program.built;simp only[h1,hu,h2];have hm:fields.toList.mapM (fun f=>(P.info? f.type).map fun i=>(f.offset,i.size))=some (fields.toList.map fun f=>(f.offset,((P.info? f.type).map (·.size)).getD 0)):=by
   grind[sK]
  simp only[hm];rw[<-f1];congr 1;funext n;subst hfs;simp only[List.getElem?_toArray,AVI];cases hn:fields.toList[n]? with
  |none=>simp
  |some f=>
   obtain⟨i',Du,_⟩:=QW f (ASU hn);simp[Du]
 grind[run_build,execOp,Sem.run_bind,Result.andThen_ok,Sem.run_pure]
end
end Go.Fw
end
section
namespace Go.Fw
theorem wrap_small{n:Int}(h0:0<=n)(h1:n<=(C_:Int)):IntKind.i64.wrap n=n:=by
 simp only[C_]at h1;unfold IntKind.wrap;simp only[IntKind.bits,IntKind.signed];grind
theorem He{m:Nat}{zl:List Value}:((List.replicate m zl).flatten).length=m*zl.length:=by
 simp_all
theorem OX{zl:List Value}:∀{m i:Nat},i<m*zl.length->((List.replicate m zl).flatten)[i]? =zl[i%zl.length]?
 |0,i,h=>by omega
 |m+1,i,h=>by
  simp only[List.replicate_succ,AWn];by_cases hi:i<zl.length
  ·rw[AR1 hi,Nat.mod_eq_of_lt hi]
  ·have Du:zl.length<=i:=by omega
   rw[ASa Du,OX (by grind),<-Nat.mod_eq_sub_mod Du]
theorem XW{zero:Array Value}{zl:List Value}(hz:zero.toList=zl)(m:Nat)(h0:zl≠[]):((Array.range (m*zl.length)).map (fun i=>zero[i%zero.size]!)).toList=(List.replicate m zl).flatten:=by
 have hs:zero.size=zl.length:=by grind
 have ALe:0<zl.length:=AZ3.2 h0;apply AYd;intro i;by_cases hi:i<m*zl.length
 ·grind[OX,Nat.mod_lt,Array.toList_map,Array.toList_range,List.getElem?_range,List.getElem?_eq_getElem]
 simp_all
section
variable{Y:Type} {P:Program} {T:KS} (hT:FE P T) {o:Oper} {E:Env} {σ:St} {a:Act} {w:World} {k:K Y} {y:Y}
include hT
theorem Xr{e:Nat}{ti:TI}{r:Ty}(he:T.get e=some ti)(hr:ti.row=some r):∃i z,P.info? e=some i/\i.size=ti.size/\i.bytes=ti.bytes/\i.zero=some z/\z.cells.toList=E8 r/\r.wS=true:=by
 obtain⟨i,h1,h2,h3,h4⟩:=(hT e ti he).info;simp_all
theorem ACW(h:Rel E σ a w){t:TypeId}{l c:Operand}(ho:o.op= .makeSlice t l c)(e:uH T t σ (σ.ev l) (σ.ev c) k=some y):Ma P o E σ a w k y:=by
 unfold uH at e;split at e
 case h_2=>cases e
 rename_i el n m hd hl hc;split at e
 case h_2=>cases e
 rename_i r hr;split at e
 case isFalse=>cases e
 rename_i Vb;split at e
 case isFalse=>cases e
 rename_i hb;obtain⟨b0,b1,b2⟩:=hb;obtain⟨el',ti,hu,Vz,hs,hby,hrow⟩:=LJ hT Vb;obtain⟨i,z,i1,i2,i3,i4,i5,hg⟩:=Xr hT Vz hrow;obtain⟨κ1,e1⟩:=JF hl (h.ev l);obtain⟨κ2,e2⟩:=JF hc (h.ev c);have w1:=wrap_small b0 (by omega);have w2:=wrap_small (n:=m) (by omega) b2
 let arr:Array Value:=(Array.range (m.toNat*r.n)).map (fun j=>(if m.toNat*r.n=0 then #[]else z.cells)[j%(if m.toNat*r.n=0 then(#[]:Array Value)else z.cells).size]!)
 have eR:arr.toList=(List.replicate n.toNat (E8 r)).flatten++(List.replicate (m.toNat-n.toNat) (E8 r)).flatten:=by
  have hz:=HM r;have split:(List.replicate n.toNat (E8 r)).flatten++(List.replicate (m.toNat-n.toNat) (E8 r)).flatten=(List.replicate m.toNat (E8 r)).flatten:=by
   grind[List.flatten_append,List.replicate_append_replicate]
  rw[split];by_cases h0:m.toNat*r.n=0
  ·grind[List.length_eq_zero_iff,He]
  ·have ew:E8 r≠[]:=by
    grind
   have:=XW i5 m.toNat ew;grind
 let w':=w.alloc (.cells arr el')
 have new:w'.heap[w.heap.size]? =some (.cells arr el'):=by
  show(w.heap.push (.cells arr el'))[w.heap.size]? =_
  simp
 have AN7:arr.size=m.toNat*r.n:=by simp[arr]
 have how:Ow w' E.S (8+1) (.sl r) [.slice (some ⟨w.heap.size,0,none⟩) (List.replicate n.toNat r.z).length m.toNat] (List.replicate n.toNat r.z) (w.heap.size::(List.replicate n.toNat ([]:ABU)).flatten):=by
  refine en new eR (by simp) (by grind) (by omega) (Xt _) (by simp) fun i cs y G h1 h2 h3=> ?_
  simp only[List.getElem?_replicate]at h1 h2 h3;split at h1
  ·rename_i hi
   rw[AOJ hi]at h2 h3;grind[gZ]
  simp_all
 have hF:(List.replicate n.toNat ([]:ABU)).flatten=[]:=by simp
 rw[hF]at how;simp only[AVz]at how;obtain⟨r1,r2,r3⟩:=Uh h (Hi.refl h.bx) (w':=w') (d:=9) (by omega) how (by simp) (by simp) (by simp[w']) (fun c hc _=>JV hc) ⟨rfl,rfl,rfl,by simp[w']⟩;refine⟨_,_,_,_,_,.inl ?_,r1,r3,r2.any,rfl,e⟩;have AdC:(i.bytes:Int)*m<=2^48:=by
  have h1:(i.bytes:Int)<=512:=by omega
  have h2:(i.bytes:Int)*m<=512*m:=Int.mul_le_mul_of_nonneg_right h1 (by omega);grind[C_]
 simp only[execOp,ho,Instr.makeSlice,e1,e2,Sem.run_bind,Bh hu,Result.andThen_ok,asInt,asIntOf,Sem.run_pure,typeInfo,run_program,i1,w1,w2];rw[AOK (by grind)];by_cases h0:m.toNat*r.n=0
 ·have e3:arr=(Array.range (m.toNat*r.n)).map (fun j=>(#[]:Array Value)[j%(#[]:Array Value).size]!):=by simp_all
  simp only[Sem.run_bind,run_askRoom,Result.andThen_ok,sizeOf,typeInfo,run_program,i1,Sem.run_pure,i2,hs,h0,AVR,newRow,run_newObj];simp only[w',e3,h0];rfl
 ·have e3:arr=(Array.range (m.toNat*r.n)).map (fun j=>z.cells[j%z.cells.size]!):=by grind
  simp only[Sem.run_bind,run_askRoom,Result.andThen_ok,sizeOf,typeInfo,run_program,i1,Sem.run_pure,i2,hs,h0,ATF,newRow,run_newObj,zeroValue,i4];simp only[w',e3];rfl
end
end Go.Fw
end
section
namespace Go.Fw
theorem lU{w:World}{B S:Nat->Prop}{d:Nat}:∀{r:Ty} {cs:List Value} {x:r.D},r.flat=true->Rd w B r cs x->Ow w S d r cs x []
 | .cons c r,cs,x,h,hr=>by
  simp only[Ty.flat,AOw]at h;simp only[Rd]at hr;obtain⟨v,l,rfl,h1,h2⟩:=hr;simp only[Ow];exact⟨v,l,[],[],rfl,rfl,lU h.1 h1,lU h.2 h2⟩
 | .unit,_,_,_,hr=>by grind[Rd,Ow]
 | .int k,_,_,_,hr=>by grind[Rd,Ow]
 | .bool,_,_,_,hr=>by grind[Rd,Ow]
 | .str,_,_,_,hr=>by grind[Rd,Ow]
 | .sl q,_,_,h,_=>by simp[Ty.flat]at h
theorem Mi{P:Program}{w:World}{b o:Nat}{cs:List Value}(h:Bj w b o cs):(loadCells ⟨b,o,none⟩ cs.length).run P w= .ok cs.toArray w:=
 run_loadCells_list (P:=P) w ⟨b,o,none⟩ cs fun j v hv=>by rw[Addr.add_eq];exact h j v hv
theorem YY{l:List Value}:(l.map fun v=>[v]).flatten=l:=by
 induction l with
 |nil=>rfl
 |cons a l ih=>simp[ih]
theorem rK{w:World}{B:Nat->Prop}{r:Ty}{b o:Nat}{ys:List r.D}(h:∀(i:Nat) (y:r.D),ys[i]? =some y-> ∃cs,cs.length=r.n/\Bj w b (o+i*r.n) cs/\Rd w B r cs y):
  ∃css:List (List Value),css.length=ys.length/\(∀c∈css,c.length=r.n)/\Bj w b o css.flatten/\ ∀(i:Nat) cs y,css[i]? =some cs->ys[i]? =some y->Rd w B r cs y:=by
 induction ys generalizing o with
 |nil=>exact⟨[],rfl,by simp,fun _ _ h=>by simp at h,fun i cs y h=>by simp at h⟩
 |cons y ys ih=>
  obtain⟨cs,c1,c2,c3⟩:=h 0 y rfl;obtain⟨css,d1,d2,d3,d4⟩:=ih (o:=o+r.n) (fun i z hz=>by
   obtain⟨cs,e1,e2,e3⟩:=h (i+1) z (by simp_all);grind)
  refine⟨cs::css,by simp[d1],by simp_all,?_,?_⟩
  ·intro j v hj
   simp only[AWn]at hj;by_cases zA:j<cs.length
   ·rw[AR1 zA]at hj
    have:=c2 j v hj;simp_all
   ·rw[ASa (by omega)]at hj
    have:=d3 _ v hj;grind
  grind
theorem Bj.append{w:World}{b o:Nat}{l m:List Value}(h:Bj w b o l)(k:Bj w b (o+l.length) m):Bj w b o (l++m):=by
 intro j v hj;by_cases zA:j<l.length
 ·rw[AR1 zA]at hj
  exact h j v hj
 ·rw[ASa (by omega)]at hj
  have:=k _ v hj;grind
section
variable{Y:Type} {P:Program} {T:KS} (hT:FE P T) {o:Oper} {E:Env} {σ:St} {a:Act} {w:World} {k:K Y} {y:Y}
theorem JR(hT:FE P T){t:Nat}{d:TD}(e:(T.get t).map TI.desc=some d):jn P t d:=by
 simp only[AOP]at e;obtain⟨ti,h1,rfl⟩:=e;exact(hT t ti h1).und
theorem ra{src dst e:Nat}(hs:P.underlying src=some (.slice e))(he:P.underlying e=some (.int .u8))(hd:P.underlying dst=some .string){x:Value}{l:AAB}{B:Nat->Prop}
  (h:Rd w B (.sl (.int .u8)) [x] l):(convert src dst x).run P w= .ok (.string ⟨(l.map fun n:Int=>UInt8.ofNat n.toNat).toArray⟩) w:=by
 simp only[Rd]at h;obtain⟨a,cap,hx,hle,h⟩:=h;simp only[ATj,AVW]at hx;subst hx;rcases h with h|⟨b,o,rfl,_,h⟩
 ·obtain rfl:=AUM h
  cases a with
  |none=>exact run_convert_bytes_nil w src e hs he _ _ dst hd
  |some a=>
   rw[run_convert_bytes_string w src dst e _ _ cap hs he hd];rfl
 ·refine run_convert_bytes_arg w src e hs he b o _ cap l rfl (fun i hi=> ?_) dst hd
  obtain⟨cs,c1,c2,c3⟩:=h i _ (AOM hi);subst c3;have:=c2 0 _ rfl;grind
include hT in
theorem ACX(h:Rel E σ a w){src dst:Nat}{x:Operand}(ho:o.op= .convert src dst x)(e:uO T src dst σ (σ.ev x) k=some y):Ma P o E σ a w k y:=by
 have hx:=h.ev x;unfold uO at e;split at e
 ·rename_i κ0 κ j n hs hd hv
  have h1:=JR hT hs;have h2:=JR hT hd;rw[hv]at hx;have Zh:=dM (E:=E) (w:=w) (vw:=σ.bx) hx;refine Ma.same h (v:= .int κ (κ.wrap n)) (x:= .c (.v (.int κ) (κ.wrap n))) ?_ (VR.int (E:=E) (vw:=σ.bx) _ _) e
  simp only[jn]at h1 h2;simp only[execOp,ho,Zh,convert,Sem.run_bind,Bh h1,Bh h2,Result.andThen_ok,Conv.intToInt,Sem.run_pure]
 ·rename_i s hs hd hv
  have h1:=JR hT hs;have h2:=JR hT hd;rw[hv]at hx;have Zh:=Yh (E:=E) (w:=w) (vw:=σ.bx) hx;refine Ma.same h (v:= .string ⟨s.toArray⟩) (x:= .c (.v .str s)) ?_ (VR.str (E:=E) (vw:=σ.bx) _) e
  simp only[jn]at h1 h2;simp only[execOp,ho,Zh,convert,Sem.run_bind,Bh h1,Bh h2,Result.andThen_ok,Sem.run_pure]
 ·rename_i el s hs hd hv
  have h1:=JR hT hs;have h2:=JR hT hd;rw[hv]at hx;have Zh:=Yh (E:=E) (w:=w) (vw:=σ.bx) hx;split at e
  case h_2=>cases e
  rename_i Vb;have h3:=JR hT Vb;split at e
  case isFalse=>cases e
  rename_i ZQ;simp only[jn]at h1 h2 h3
  let S0:ByteArray:=⟨s.toArray⟩
  have QW:S0.size=s.length:=by simp[S0,ByteArray.size]
  have nh:=Lib.run_convert_string_bytes (P:=P) w src dst el S0 h1 h2 h3;have AAX:s.length<=grownCap w S0.size 0 el:=by rw[QW];exact grownCap_ge _ _ _ _
  have new:=Lib.bytesWorld_at_new w el S0;have eR:(Lib.bytesCells w el S0).toList=(s.map fun c=>[Value.int .u8 (c.toNat:Int)]).flatten++List.replicate (grownCap w S0.size 0 el-S0.size) (.int .u8 0):=by
   have:(s.map fun c=>[Value.int .u8 (c.toNat:Int)]).flatten=s.map fun c=>Value.int .u8 (c.toNat:Int):=by
    have:=YY (l:=s.map fun c=>Value.int .u8 (c.toNat:Int));simpa[AXP,Function.comp_def]using this
   rw[this];simp[Lib.bytesCells,S0]
  have AN7:(Lib.bytesCells w el S0).size=grownCap w S0.size 0 el:=by
   rw[<-AYg,eR];have:((s.map fun c=>[Value.int .u8 (c.toNat:Int)]).flatten).length=s.length:=by
    have:=YY (l:=s.map fun c=>Value.int .u8 (c.toNat:Int));rw[AXP]at this;have e2:(s.map fun c=>[Value.int .u8 (c.toNat:Int)])=s.map ((fun v=>[v])∘fun c=>Value.int .u8 (c.toNat:Int)):=rfl;rw[e2,this];simp
   rw[ASB,this,AVz];omega
  have how:Ow (Lib.bytesWorld w el S0) E.S (8+1) (.sl (.int .u8)) [.slice (some ⟨w.heap.size,0,none⟩) (s.map fun c=>(c.toNat:Int)).length (grownCap w S0.size 0 el)] (s.map fun c=>(c.toNat:Int))
    (w.heap.size::(List.replicate s.length ([]:ABU)).flatten):=by
   refine en (css:=s.map fun c=>[Value.int .u8 (c.toNat:Int)]) new eR (by simp) (by simpa using AAX) (by simp[Ty.n];omega) (fun i hi hh=>by simp only[mk]at hi;omega) (by simp) fun i cs y G q1 q2 q3=> ?_
   simp only[AVI,AOP]at q1 q2;obtain⟨c1,z1,rfl⟩:=q1;obtain⟨c2,z2,rfl⟩:=q2;rw[z1]at z2;cases z2;have:G=[]:=AV1 (ASU q3);subst this;simp[Ow]
  have hF:(List.replicate s.length ([]:ABU)).flatten=[]:=by simp
  rw[hF]at how;obtain⟨r1,r2,r3⟩:=Uh h (Hi.refl h.bx) (w':=Lib.bytesWorld w el S0) (d:=9) (by omega) how (by simp) (by simp) (by simp[Lib.bytesWorld_size]) (fun c hc _=>Lib.bytesWorld_at_old w el S0 c hc)
   ⟨by simp[Lib.bytesWorld,World.freeze]<;>rfl,by simp[Lib.bytesWorld,World.freeze]<;>rfl,by simp[Lib.bytesWorld,World.freeze]<;>rfl,by rw[Lib.bytesWorld_size];omega⟩
  refine⟨_,_,_,_,_,.inl ?_,r1,r3,r2.any,rfl,e⟩;simp only[execOp,ho,Zh,Sem.run_bind];have e5:=nh;simp only[S0]at e5;rw[e5];simp only[Result.andThen_ok,Sem.run_pure,AWA];rfl
 ·rename_i el z hs hd hv
  have h1:=JR hT hs;have h2:=JR hT hd;rw[hv]at hx;split at e
  case h_2=>cases e
  rename_i l Vb hl;have h3:=JR hT Vb;simp only[jn]at h1 h2 h3;obtain⟨Fs,hB,hS⟩:=h.bx;have ZH:=Vr (Fg.refl σ.bx) hB hS.st hx hl;have hr:=ra (P:=P) h1 h3 h2 ZH;refine Ma.same h (v:= .string ⟨(l.map fun n:Int=>UInt8.ofNat n.toNat).toArray⟩) (x:= .c (.v .str (l.map fun n:Int=>UInt8.ofNat n.toNat))) ?_ (VR.str (E:=E) (vw:=σ.bx) _) e
  simp only[execOp,ho,Sem.run_bind,hr,Result.andThen_ok,Sem.run_pure]
 ·cases e
end
end Go.Fw
end
section
namespace Go.Fw
theorem eG:∀(l:List Value) (o:Nat) (arr:Array Value) (p q:List Value),p.length=o->(∃m:List Value,m.length=l.length/\arr.toList=p++m++q)->(Fc arr o l).toList=p++l++q
 |[],o,arr,p,q,hp,⟨m,hm,h⟩=>by
  grind[List.eq_nil_of_length_eq_zero,Fc]
 |c::l,o,arr,p,q,hp,⟨m,hm,h⟩=>by
  cases m with
  |nil=>simp_all
  |cons b m=>
   simp only[Fc];have:=eG l (o+1) (arr.setIfInBounds o c) (p++[c]) q (by simp[hp]) ⟨m,by simp_all,by
    simp_all⟩
   simp_all
theorem Hi.more{E E1 E2:Env}{w:World}{vw bx lr cI:List Bx}{G F1 F2 A W:ABU}(k1:Hi E w vw bx G E1 lr F1)(k2:Hi E1 w vw lr (F1++G) E2 cI F2)(hp:F1.Perm (A++W)):
  let E3:Env:={ E2 with S:=fun c=>E2.S c\/c∈W,T:=fun c=>E2.T c\/c∈W }
  Hi E w vw bx G E3 cI (A++F2):=by
 intro E3;have hB:=k2.boxes.perm (G':=(F2++A)++W++G) (by
  grind)
 obtain⟨hle,ZI⟩:=hB.share;exact⟨(k1.le.trans k2.le).trans hle,k2.len.trans k1.len,fun b B hb=>(k2.within b B hb).elim .inl (k1.within b B),ZI.perm (AXU _ List.perm_append_comm)⟩
theorem aK{w:World}{vw:List Bx}{r:Ty}(hg:r.wS=true):∀{n i:Nat} {parts:List (Nat×XV)} {vals:List (Nat×Value)} {E:Env} {bx:List Bx} {G:ABU} {d:Nat} {rows:List r.D} {RX:List Bx} {d':Nat},
  DQ E w vw bx G->Fg bx vw->1<=d->zY E w vw parts vals->Zm r i n parts bx d=some (rows,RX,d')->1<=d'/\d'<=d/\rows.length=n/\ ∃(E':Env) (Fs:List ABU) (css:List (List Value)),
   Hi E w vw bx G E' RX Fs.flatten/\css.length=n/\Fs.length=n/\(∀(k:Nat) cs y G,css[k]? =some cs->rows[k]? =some y->Fs[k]? =some G->Ow w E'.S (d'-1) r cs y G)/\
   ∀(pre:List (List Value)) (arr:Array Value),pre.length=i->(∀c∈pre,c.length=r.n)->arr.toList=pre.flatten++(List.replicate n (E8 r)).flatten->
    ∃LP,Instr.fill (fun i=>some (i*r.n,r.n)) arr vals=some LP/\LP.toList=pre.flatten++css.flatten
 |0,i,[],[],E,bx,G,d,rows,RX,d',h,hw,hd,hp,e=>by
  simp only[Zm,AON,AUW]at e;obtain⟨rfl,rfl,rfl⟩:=e;refine⟨hd,ATX _,rfl,E,[],[],Hi.refl h,rfl,rfl,by simp,fun pre arr _ _ ha=>⟨arr,rfl,by simp_all⟩⟩
 |n+1,i,(j,x)::l,(j',v)::m,E,bx,G,d,rows,RX,d',h,hw,hd,hp,e=>by
  obtain⟨⟨hj,hx⟩,hp⟩:=hp;simp only at hj hx;subst hj;simp only[Zm]at e;split at e
  case isFalse=>cases e
  rename_i hij;subst hij;simp only[AOc,AOP,AUW]at e;obtain⟨⟨y1,lr,d1⟩,e1,⟨y2,cI,d2⟩,e2,rfl,rfl,rfl⟩:=e;dsimp only at e2|-;obtain⟨a1,a2,E1,F1,k1,o1⟩:=yy h hw hd hx e1;have yv:=k1.le.keep (w:=w) (vw:=vw) h.st;obtain⟨b1,b2,b3,E2,Fs,css,k2,c1,c2,c3,c4⟩:=aK hg (G:=F1++G) k1.boxes (hw.ql k1) a1 (hp.imp fun _ _ q=>⟨q.1,P5 yv q.2⟩) e2;obtain⟨A,W,qS,o1'⟩:=Ki (d:=d'-1) (by omega) o1;refine⟨b1,AVG b2 a2,by simp[b3],_,A::Fs,v.cells.toList::css,Hi.more k1 k2 qS,by simp[c1],by simp[c2],fun k cs y G' q1 q2 q3=> ?_,fun pre arr zH hpn ha=> ?_⟩
  ·cases k with
   |zero=>
    simp at q1 q2 q3;subst q1 q2 q3;refine En (S:=fun b=>E1.S b\/b∈W) ?_ (fun _ _=>rfl) (fun _ _=>rfl) o1'
    intro c hc;exact hc.elim (fun h=> .inl (k2.le.S c h)) .inr
   |succ k=>
    refine En (S:=E2.S) ?_ (fun _ _=>rfl) (fun _ _=>rfl) (c3 k cs y G' (by simp_all) (by simp_all) (by simp_all))
    simp_all
  ·have hlen:v.cells.toList.length=r.n:=YB o1
   have hpf:pre.flatten.length=i*r.n:=by
    clear ha c4
    subst zH;clear e1 e2
    induction pre with
    |nil=>simp
    |cons c pre ih=>grind
   have Va:(Fc arr (i*r.n) v.cells.toList).toList=pre.flatten++v.cells.toList++(List.replicate n (E8 r)).flatten:=
    eG _ _ _ _ _ hpf ⟨E8 r,by rw[HM,hlen],by grind⟩
   obtain⟨LP,f1,f2⟩:=c4 (pre++[v.cells.toList]) (Fc arr (i*r.n) v.cells.toList) (by simp[zH]) (by
    grind) (by simp_all)
   refine⟨LP,?_,by simp_all⟩;rw[uN (i:=i) (off:=i*r.n) (size:=r.n) rfl (by omega) ?_]
   all_goals grind[List.length_append,He,HM,Nat.succ_mul]
 |n+1,i,[],[],E,bx,G,d,rows,RX,d',h,hw,hd,hp,e=>by
  simp only[Zm,AOP,AUW]at e;obtain⟨⟨y2,cI,d2⟩,e2,rfl,rfl,rfl⟩:=e;obtain⟨b1,b2,b3,E2,Fs,css,k2,c1,c2,c3,c4⟩:=aK hg (G:=G) h hw hd (parts:=[]) (vals:=[]) trivial e2;refine⟨b1,b2,by simp[b3],E2,[]::Fs,E8 r::css,by simp_all,by simp[c1],by simp[c2],fun k cs y G' q1 q2 q3=> ?_,fun pre arr zH hpn ha=> ?_⟩
  ·grind[gZ]
  ·obtain⟨LP,f1,f2⟩:=c4 (pre++[E8 r]) arr (by simp[zH]) (by
    grind[HM]) (by grind)
   simp_all
 |0,_,_::_,_,_,_,_,_,_,_,_,_,_,_,_,e=>by simp[Zm]at e
 |0,_,[],_::_,_,_,_,_,_,_,_,_,_,_,hp,_=>hp.elim
 |_+1,_,[],_::_,_,_,_,_,_,_,_,_,_,_,hp,_=>hp.elim
 |_+1,_,_::_,[],_,_,_,_,_,_,_,_,_,_,hp,_=>hp.elim
section
variable{Y:Type} {P:Program} {T:KS} (hT:FE P T) {o:Oper} {E:Env} {σ:St} {a:Act} {w:World} {k:K Y} {y:Y}
include hT
theorem o7(h:Rel E σ a w){t n:Nat}{ps:Array (Nat×Operand)}(ho:o.op= .buildSlice t n ps)(e:SO T t n (ps.toList.map fun q=>(q.1,σ.ev q.2)) σ k=some y):Ma P o E σ a w k y:=by
 unfold SO at e;split at e
 case h_2=>cases e
 rename_i el hd;split at e
 case h_2=>cases e
 rename_i r hr;split at e
 case isFalse=>cases e
 rename_i hc;simp only[AOw,APo]at hc;obtain⟨⟨Vb,hn⟩,hrn⟩:=hc;simp only[AOc]at e;obtain⟨⟨rows,RX,d'⟩,e1,e⟩:=e;dsimp only at e;obtain⟨el',ti,hu,Vz,hs,hby,hrow⟩:=LJ hT Vb;obtain⟨i,z,i1,i2,i3,i4,i5,hg⟩:=Xr hT Vz hrow;have APX:=sV h ps;obtain⟨b1,b2,b3,E',Fs,css,k2,c1,c2,c3,c4⟩:=aK hg h.bx (Fg.refl _) (by omega) APX e1
 let zero:Array Value:=if n*r.n=0 then #[]else z.cells
 have hz:((Array.range (n*r.n)).map (fun j=>zero[j%zero.size]!)).toList=(List.replicate n (E8 r)).flatten:=by
  by_cases h0:n*r.n=0
  ·have h1:(List.replicate n (E8 r)).flatten=[]:=by
    rw[<-AZn,He,HM,h0]
   rw[h1];simp[h0]
  ·have ew:E8 r≠[]:=by
    intro he;have:=HM r;rw[he]at this;simp at this;rw[<-this]at h0;simp at h0
   have:=XW i5 n ew;rw[HM]at this;simp only[zero,AOK h0];exact this
 obtain⟨LP,f1,f2⟩:=c4 [] _ rfl (by simp) (by rw[hz];simp);simp only[AYn,AVJ]at f2
 let w':=w.alloc (.cells LP el')
 have new:w'.heap[w.heap.size]? =some (.cells LP el'):=by
  show(w.heap.push (.cells LP el'))[w.heap.size]? =_
  simp
 obtain⟨d,rfl⟩:∃m,d' =m+1:=⟨d'-1,by omega⟩;have hl:∀c∈css,c.length=r.n:=by
  intro c hc;obtain⟨j,hj,rfl⟩:=AVO hc;exact YB (c3 j _ _ _ (AOM hj) (AOM (by omega)) (AOM (by omega)))
 have zC:css.flatten.length=n*r.n:=by
  rw[<-c1];clear f2 c3 c4 c1
  induction css with
  |nil=>simp
  |cons c l ih=>simp[hl c (by simp),ih (fun c hc=>hl c (by simp[hc])),Nat.succ_mul];omega
 have AN7:LP.size=n*r.n:=by rw[<-AYg,f2,zC]
 obtain⟨Fs0,hB1,ZI⟩:=k2.boxes;simp only[AQO]at ZI;have how:Ow w' E'.S (d+1) (.sl r) [.slice (some ⟨w.heap.size,0,none⟩) rows.length n] rows (w.heap.size::Fs.flatten):=by
  refine en (css:=css) (ex:=[]) new (by simpa using f2) (by omega) (by omega) (by omega) (Xt _) (by omega) fun k cs y G q1 q2 q3=> ?_
  have VP:∀c∈G,c∈Fs.flatten:=fun c hc=>AVK.2 ⟨G,ASU q3,hc⟩
  exact En (fun _ h=>h) (fun c hc=>JV (ZI.eT c (ZI.st c hc))) (fun c hc=>JV (ZI.lt c (by simp only[ARh];exact .inr (VP c hc)))) (by simpa using c3 k cs y G q1 q2 q3)
 rw[b3]at how;obtain⟨r1,r2,r3⟩:=Uh h k2 (w':=w') (d:=d+1) (by omega) how (by
   intro c hc;rcases ASY.1 hc with rfl|hc
   ·exact .inr (ATX _)
   ·exact .inl hc) (by
   refine AZO.2 ⟨fun hc=> ?_,(ARZ.1 ZI.nodup).2.1⟩;have:=ZI.lt w.heap.size (by simp only[ARh];exact .inr hc);omega) (by
   intro c hc;rcases ASY.1 hc with rfl|hc
   ·simp[w']
   ·have:=ZI.lt c (by simp only[ARh];exact .inr hc)
    simp[w'];omega) (fun c hc _=>JV hc) ⟨rfl,rfl,rfl,by simp[w']⟩
 refine⟨_,_,_,_,_,.inl ?_,r1,r3,r2.any,rfl,e⟩;have ZQ: ¬(n*r.n>2^24):=by
  have:n*r.n<=1024*1024:=Nat.mul_le_mul hn hrn;omega
 simp only[execOp,ho,Instr.buildSlice,Sem.run_bind,Bh hu,Result.andThen_ok,sizeOf,typeInfo,run_program,i1,Sem.run_pure,i2,hs,ZQ,ATF];by_cases h0:n*r.n=0
 ·have hz0:zero= #[]:=by simp only[zero,AOJ h0]
  rw[hz0]at f1;simp only[h0,AVR,Sem.run_bind,Sem.run_pure,Result.andThen_ok];rw[h0]at f1;simp only[f1,newRow,Sem.run_bind,run_newObj,Result.andThen_ok,Sem.run_pure];rfl
 ·have hz0:zero=z.cells:=by simp only[zero,AOK h0]
  rw[hz0]at f1;simp only[h0,ATF,Sem.run_bind,zeroValue,typeInfo,run_program,Result.andThen_ok,i1,Sem.run_pure,i4];simp only[f1,newRow,Sem.run_bind,run_newObj,Result.andThen_ok,Sem.run_pure];rfl
end
end Go.Fw
end
section
namespace Go.Fw
theorem dC(w:World)(b o:Nat)(v:Value):(w.setCell ⟨b,o,none⟩ v).heap=w.heap.modify b fun
 | .cells c elem frozen=> .cells (c.setIfInBounds o v) elem frozen
 |o=>o:=rfl
theorem F6:∀(vs:List Value) (o:Nat) (w:World) (b:Nat) (arr:Array Value) (ty:TypeId) (fr:AD9),w.heap[b]? =some (.cells arr ty fr)->
  (w.setCells b o vs).heap[b]? =some (.cells (Fc arr o vs) ty fr)
 |[],_,_,_,_,_,_,h=>h
 |v::l,o,w,b,arr,ty,fr,h=>by
  simp only[World.setCells,Fc];refine F6 l (o+1) _ b _ ty fr ?_
  rw[dC,Array.getElem?_modify,AOJ rfl,h];rfl
theorem Dq:∀(vs:List Value) (o:Nat) (w:World) (b:Nat),(w.setCells b o vs).heap.size=w.heap.size
 |[],_,_,_=>rfl
 |v::l,o,w,b=>by
  simp only[World.setCells];rw[Dq l,dC,Array.size_modify]
theorem Dd:∀(vs:List Value) (o:Nat) (w:World) (b c:Nat),c≠b->(w.setCells b o vs).heap[c]? =w.heap[c]?
 |[],_,_,_,_,_=>rfl
 |v::l,o,w,b,c,h=>by
  simp only[World.setCells];rw[Dd l _ _ _ _ h,dC,Array.getElem?_modify,AOK (fun e=>h e.symm)]
theorem CH:∀(vs:List Value) (o:Nat) (w:World) (b:Nat),Grown w (w.setCells b o vs)
 |[],_,_,_=>⟨rfl,rfl,rfl,ATX _⟩
 |v::l,o,w,b=>by
  have:=CH l (o+1) (w.setCell ⟨b,o,none⟩ v) b;refine⟨this.os,this.tape,this.output,?_⟩;rw[Dq];omega
theorem Xj{arr:Array Value}:∀{l:List Value} {o j:Nat},o+l.length<=arr.size->(Fc arr o l)[j]? =if o<=j/\j<o+l.length then l[j-o]? else arr[j]?:=by
 intro l
 induction l generalizing arr with
 |nil=>intro o j _;rw[AOK (fun hh=>by grind)];rfl
 |cons c l ih=>
  intro o j h;simp only[ART]at h;simp only[Fc];grind
theorem Ld{w:World}{b o:Nat}{arr:Array Value}{ty:TypeId}{fr:AD9}(h:w.heap[b]? =some (.cells arr ty fr)):w.cell? ⟨b,o,none⟩=arr[o]?:=by
 simp[World.cell?,h]
theorem PS{w:World}{b o:Nat}{vs:List Value}{arr:Array Value}{ty:TypeId}{fr:AD9}(h:w.heap[b]? =some (.cells arr ty fr))(hs:o+vs.length<=arr.size):Bj (w.setCells b o vs) b o vs:=by
 intro j v hj;have hl:=(AOS.1 hj).1;rw[Ld (F6 vs o w b arr ty fr h),Xj hs,AOJ (by omega),show o+j-o=j by omega,hj]
theorem U8{w:World}{b b' o o':Nat}{vs cs:List Value}{arr:Array Value}{ty:TypeId}{fr:AD9}(hc:Bj w b' o' cs)(h:w.heap[b]? =some (.cells arr ty fr))(hs:o+vs.length<=arr.size)
  (ha:b'≠b\/o'+cs.length<=o\/o+vs.length<=o'):Bj (w.setCells b o vs) b' o' cs:=by
 intro j v hj;have hl:=(AOS.1 hj).1;by_cases hb:b' =b
 ·subst hb
  have:=hc j v hj;rw[Ld h]at this;rw[Ld (F6 vs o w b' arr ty fr h),Xj hs,AOK (by omega),this]
 ·rw[World.cell?_of_block (a:=⟨b',o'+j,none⟩) (Dd vs o w b b' hb)]
  exact hc j v hj
theorem Vj{w:World}{b o n k:Nat}{arr:Array Value}{ty:TypeId}{fr:AD9}(h:w.heap[b]? =some (.cells arr ty fr))(hs:o+n<=arr.size)(hu:w_ fr (arr.size+k)):w.there b o n:=by
 intro j hj;refine⟨?_,?_⟩
 ·rw[Ld h]
  grind
 ·have:=hu (o+j) (by omega)
  grind[World.frozen?]
theorem mQ{w:World}{S:Nat->Prop}:∀{r:Ty} {d:Nat} {cs:List Value} {y:r.D} {F:ABU},Ow w S d r cs y F-> ∀v∈cs,v.oneCell' =true
 | .int _,_,_,_,_,h,v,hv=>by simp only[Ow]at h;rw[h.1]at hv;simp at hv;subst hv;rfl
 | .bool,_,_,_,_,h,v,hv=>by simp only[Ow]at h;rw[h.1]at hv;simp at hv;subst hv;rfl
 | .str,_,_,_,_,h,v,hv=>by simp only[Ow]at h;rw[h.1]at hv;simp at hv;subst hv;rfl
 | .unit,_,_,_,_,h,v,hv=>by grind[Ow]
 | .sl _,0,_,_,_,h,v,hv=>by
  simp only[Ow,Rd]at h;obtain⟨⟨_,_,rfl,_⟩,_⟩:=h;simp at hv;subst hv;rfl
 | .sl _,_+1,_,_,_,h,v,hv=>by
  simp only[Ow]at h;obtain⟨_,_,rfl,_⟩:=h;simp at hv;subst hv;rfl
 | .cons _ _,_,_,_,_,h,v,hv=>by
  simp only[Ow]at h;obtain⟨u,l,F1,F2,rfl,_,h1,h2⟩:=h;rcases ASY.1 hv with rfl|hv
  ·exact mQ h1 _ (by simp)
  ·exact mQ h2 _ hv
section
variable{P:Program} {w:World}
structure mV (P:Program) (w:World) (size n:Nat) (x:Value) (news:List Value):Prop where
 len:∀w',(Builtin.lenOf x).run P w' = .ok n w'
 cells:∀w',w'.heap=w.heap->(Builtin.firstCells size n x).run P w' = .ok news.toArray w'
theorem iE{ts:Array TypeId}{t u ty e:TypeId}(xf:ts[0]? =some t)(wq:ts[1]? =some u){i:TypeInfo}{size:Nat}(ht:P.underlying t=some (.slice e))(hu:(∃e,P.underlying u=some (.slice e))\/P.underlying u=some .string)(hi:P.info? e=some i)(QW:i.size=size)
  {b o WJ kg n:Nat} {x:Value} {news:List Value} (hn:mV P w size n x news) (UK:WJ+n<=kg) (sA:w.there b (o+WJ*size) news.length) (h1:∀v∈news,v.oneCell' =true):
  (Builtin.append_ ts ty #[.slice (some ⟨b,o,none⟩) WJ kg,x]).run P w= .ok (.slice (some ⟨b,o,none⟩) (WJ+n) kg) (w.setCells b (o+WJ*size) news):=by
 subst QW;have sk:=run_storeCells_cells (P:=P) b (o+WJ*i.size) news 0 w (fun j hj=>by simpa using(sA j hj).1) (fun j hj=>by simpa using(sA j hj).2) h1;simp only[AW4]at sk;have hl:=hn.len w;have hf:=hn.cells w rfl;rcases hu with⟨e',hu⟩|hu
 ·simp[Builtin.append_,xf,wq,run_underlying ht,run_underlying hu,sizeOf,typeInfo,hi,hl,UK,hf,Addr.add_eq,sk]
 ·simp[Builtin.append_,xf,wq,run_underlying ht,run_underlying hu,sizeOf,typeInfo,hi,hl,UK,hf,Addr.add_eq,sk]
theorem pK{ts:Array TypeId}{t u ty e:TypeId}(xf:ts[0]? =some t)(wq:ts[1]? =some u){i:TypeInfo}{size:Nat}(ht:P.underlying t=some (.slice e))(hu:(∃e,P.underlying u=some (.slice e))\/P.underlying u=some .string)(hi:P.info? e=some i)(QW:i.size=size)
  {a:Option Addr} {x:Value} (hn:mV P w size 0 x []):
  (Builtin.append_ ts ty #[.slice a 0 0,x]).run P w= .ok (.slice a 0 0) w:=by
 subst QW;have hl:=hn.len w;have hf:=hn.cells w rfl;cases a with
 |none=>
  rcases hu with⟨e',hu⟩|hu
  ·simp[Builtin.append_,xf,wq,run_underlying ht,run_underlying hu,sizeOf,typeInfo,hi,hl,hf]
  ·simp[Builtin.append_,xf,wq,run_underlying ht,run_underlying hu,sizeOf,typeInfo,hi,hl,hf]
 |some a=>
  have sk:(storeCells (a.add (0*i.size)) [] 0).run P w= .ok () w:=rfl;rcases hu with⟨e',hu⟩|hu
  ·simp[Builtin.append_,xf,wq,run_underlying ht,run_underlying hu,sizeOf,typeInfo,hi,hl,hf,storeCells]
  ·simp[Builtin.append_,xf,wq,run_underlying ht,run_underlying hu,sizeOf,typeInfo,hi,hl,hf,storeCells]
theorem dy{ts:Array TypeId}{t u ty e:TypeId}(xf:ts[0]? =some t)(wq:ts[1]? =some u){i:TypeInfo}{z:Value}{size:Nat}(ht:P.underlying t=some (.slice e))(hu:(∃e,P.underlying u=some (.slice e))\/P.underlying u=some .string)(hi:P.info? e=some i)(hz:i.zero=some z)(QW:i.size=size)
  {a:Option Addr} {WJ kg n:Nat} {x:Value} {AXs news:List Value} (ho:∀w',w'.heap=w.heap->(Builtin.firstCells size WJ (.slice a WJ kg)).run P w' = .ok AXs.toArray w')
  (hn:mV P w size n x news) (AYt:kg<WJ+n) (h63:WJ+n<=C_) (hby:i.bytes<=512):
  (Builtin.append_ ts ty #[.slice a WJ kg,x]).run P w= .ok (.slice (some ⟨w.heap.size,0,none⟩) (WJ+n) (grownCap w (WJ+n) kg e))
   (w.drew.alloc (.cells (AXs.toArray++news.toArray++Builtin.zeroCells z.cells (grownCap w (WJ+n) kg e-(WJ+n))) e)):=by
 subst QW;have hl:=hn.len w;have hf:=hn.cells w.drew rfl;have hfo:=ho w.drew rfl;have hno: ¬(WJ+n<=kg):=by omega
 have hb:(WJ+n)*i.bytes<=140737488355328:=by
  have:(WJ+n)*i.bytes<=C_*512:=Nat.mul_le_mul h63 hby;grind[C_]
 have h48:=growslice_fits AYt hb;have AY5: ¬(281474976710656<Builtin.nextslicecap (WJ+n) kg*i.bytes):=by omega
 have AWG: ¬(9223372036854775807<((WJ:Int)+(n:Int))):=by grind[C_]
 rcases hu with⟨e',hu⟩|hu
 ·simp[Builtin.append_,xf,wq,run_underlying ht,run_underlying hu,sizeOf,typeInfo,zeroValue,hi,hz,hl,hno,AWG,AY5,Question.forced,hf,hfo,newRow,grownCap]
  grind
 ·simp[Builtin.append_,xf,wq,run_underlying ht,run_underlying hu,sizeOf,typeInfo,zeroValue,hi,hz,hl,hno,AWG,AY5,Question.forced,hf,hfo,newRow,grownCap]
  grind
end
end Go.Fw
end
section
namespace Go.Fw
def Ff(w:World)(S:Nat->Prop)(d:Nat)(r:Ty)(css:List (List Value))(rows:List r.D)(Fs:List ABU):Prop:=
 css.length=rows.length/\Fs.length=rows.length/\(∀c∈css,c.length=r.n)/\ ∀(i:Nat) cs y G,css[i]? =some cs->rows[i]? =some y->Fs[i]? =some G->Ow w S d r cs y G
theorem Ff.mono{w w':World}{S S':Nat->Prop}{d:Nat}{r:Ty}{css:List (List Value)}{rows:List r.D}{Fs:List ABU}(h:Ff w S d r css rows Fs)(hS:∀c,S c->S' c)(hw:∀c,S c->w'.heap[c]? =w.heap[c]?)
  (hF:∀c∈Fs.flatten,w'.heap[c]? =w.heap[c]?):Ff w' S' d r css rows Fs:=
 ⟨h.1,h.2.1,h.2.2.1,fun i cs y G a b c=>En hS hw (fun x hx=>hF x (AVK.2 ⟨G,ASU c,hx⟩)) (h.2.2.2 i cs y G a b c)⟩
theorem Ff.append{w:World}{S:Nat->Prop}{d:Nat}{r:Ty}{css AYo:List (List Value)}{rows DE:List r.D}{Fs Fs':List ABU}(h:Ff w S d r css rows Fs)(k:Ff w S d r AYo DE Fs'):
  Ff w S d r (css++AYo) (rows++DE) (Fs++Fs'):=by
 refine⟨by simp[h.1,k.1],by simp[h.2.1,k.2.1],fun c hc=>(ARh.1 hc).elim (h.2.2.1 c) (k.2.2.1 c),fun i cs y G a b c=> ?_⟩;by_cases hi:i<rows.length
 ·rw[AR1 (by rw[h.1];omega)]at a
  rw[AR1 hi]at b;rw[AR1 (by rw[h.2.1];omega)]at c;exact h.2.2.2 i cs y G a b c
 ·rw[ASa (by rw[h.1];omega)]at a
  rw[ASa (by omega)]at b;rw[ASa (by rw[h.2.1];omega)]at c;rw[h.1]at a;rw[h.2.1]at c;exact k.2.2.2 _ cs y G a b c
theorem Ff.weaken{w:World}{S:Nat->Prop}{d d':Nat}{r:Ty}{css:List (List Value)}{rows:List r.D}{Fs:List ABU}(h:Ff w S d r css rows Fs)(hd:d'<=d):
  ∃(Gs:List ABU) (W:ABU),Fs.flatten.Perm (Gs.flatten++W)/\Ff w (fun c=>S c\/c∈W) d' r css rows Gs:=by
 obtain⟨Gs,Ws,h1,h2,h3,h4⟩:=sU (R:=fun i G F W=> ∀cs y,css[i]? =some cs->rows[i]? =some y->Ow w (fun c=>S c\/c∈W) d' r cs y F) Fs 0 (fun i G hG=>by
  rw[AVt];have hi:=(AOS.1 hG).1;have h1:=h.1;have h2:=h.2.1;obtain⟨F,W,hp,ho⟩:=Ki hd (h.2.2.2 i _ _ G (AOM (by omega)) (AOM (by omega)) hG);grind)
 refine⟨Gs,Ws.flatten,h3,h.1,h1.trans h.2.1,h.2.2.1,fun i cs y G a b c=> ?_⟩;have hi:=(AOS.1 c).1;have hw:Ws[i]? =some (Ws[i]'(by omega)):=AOM _;have hf:Fs[i]? =some (Fs[i]'(by omega)):=AOM _;have:=h4 i _ _ _ hf c hw cs y (by simp_all) (by simp_all);exact En (fun x hx=>hx.imp id fun hx=>AVK.2 ⟨_,ASU hw,hx⟩) (fun _ _=>rfl) (fun _ _=>rfl) this
theorem ID{n:Nat}:∀{css:List (List Value)},(∀c∈css,c.length=n)->css.flatten.length=css.length*n
 |[],_=>by simp
 |c::l,h=>by simp[h c (by simp),ID (css:=l) (fun c hc=>h c (by simp[hc])),Nat.succ_mul];omega
theorem Ff.one{w:World}{S:Nat->Prop}{d:Nat}{r:Ty}{css:List (List Value)}{rows:List r.D}{Fs:List ABU}(h:Ff w S d r css rows Fs):∀v∈css.flatten,v.oneCell' =true:=by
 intro v hv;obtain⟨c,hc,hv⟩:=AVK.1 hv;obtain⟨i,hi,rfl⟩:=AVO hc;have h1:=h.1;have h2:=h.2.1;exact mQ (h.2.2.2 i _ _ _ (AOM hi) (AOM (by omega)) (AOM (by omega))) v hv
theorem Ff.flat{w:World}{B S:Nat->Prop}{d:Nat}{r:Ty}(hf:r.flat=true){css:List (List Value)}{rows:List r.D}(h1:css.length=rows.length)(h2:∀c∈css,c.length=r.n)
  (h3:∀(i:Nat) cs y,css[i]? =some cs->rows[i]? =some y->Rd w B r cs y):Ff w S d r css rows (List.replicate rows.length []):=by
 refine⟨h1,by simp,h2,fun i cs y G a b c=> ?_⟩;grind[List.mem_of_getElem?,lU]
theorem Bj.heap{w w':World}{b o:Nat}{cs:List Value}(h:Bj w b o cs)(e:w'.heap=w.heap):Bj w' b o cs:=h.of_block (by rw[e])
theorem Rs{P:Program}{w:World}{a:Option Addr}{n cap size:Nat}{css:List (List Value)}(hl:css.length=n)(hc:∀c∈css,c.length=size)
  (h:n=0\/ ∃b o,a=some ⟨b,o,none⟩/\Bj w b o css.flatten):mV P w size n (.slice a n cap) css.flatten:=by
 refine⟨fun w' =>rfl,fun w' e=> ?_⟩;have hlen:css.flatten.length=n*size:=by rw[ID hc,hl]
 rcases h with rfl|⟨b,o,rfl,h⟩
 ·have:css=[]:=AUM hl
  subst this;cases a with
  |none=>rfl
  |some a=>
   simp only[Builtin.firstCells,Nat.zero_mul,AYn];rfl
 ·simp only[Builtin.firstCells]
  rw[<-hlen];exact Mi (h.heap e)
theorem AFD{P:Program}{w:World}{s:ACH}:mV P w 1 s.length (.string ⟨s.toArray⟩) (s.map fun c=>[Value.int .u8 (c.toNat:Int)]).flatten:=by
 refine⟨fun w' =>rfl,fun w' _=> ?_⟩;have QW:(⟨s.toArray⟩:ByteArray).size=s.length:=by rfl
 have e1:(⟨s.toArray⟩:ByteArray).extract 0 s.length=⟨s.toArray⟩:=by
  rw[<-QW];apply ByteArray.ext;simp
 simp only[Builtin.firstCells,e1,Sem.run_pure];have:(s.map fun c=>[Value.int .u8 (c.toNat:Int)]).flatten=s.map fun c=>Value.int .u8 (c.toNat:Int):=by
  have:=YY (l:=s.map fun c=>Value.int .u8 (c.toNat:Int));grind[List.map_map,Function.comp_def]
 simp_all
theorem p8{w:World}{S:Nat->Prop}{d:Nat}{r:Ty}{v:Value}{rows:List r.D}{F:ABU}(h:Ow w S (d+1) (.sl r) [v] rows F):
  ∃a cap css Fs R,v= .slice a rows.length cap/\rows.length<=cap/\Ff w S d r css rows Fs/\F.Perm (Fs.flatten++R)/\
   ((cap=0/\F=[])\/ ∃b o arr ty fr,a=some ⟨b,o,none⟩/\w.heap[b]? =some (.cells arr ty fr)/\o+cap*r.n<=arr.size/\w_ fr (arr.size+mk r)/\F=b::Fs.flatten/\Bj w b o css.flatten):=by
 simp only[Ow]at h;obtain⟨a,cap,e,hle,h⟩:=h;simp only[ATj,AVW]at e;subst e;rcases h with⟨h,rfl⟩|⟨b,o,arr,ty,fr,Fs,rfl,hb,QW,hu,rfl,hFl,hr⟩
 ·have:rows=[]:=AUM (by omega)
  subst this;exact⟨a,cap,[],[],[],rfl,hle,⟨rfl,rfl,by simp,fun i cs y G h=>by simp at h⟩,by simp,.inl ⟨h,rfl⟩⟩
 ·
  have key:∀(n o:Nat) (ys:List r.D) (Fs:List ABU),ys.length=n->Fs.length=n->(∀(i:Nat) (y:r.D) (G:ABU),ys[i]? =some y->Fs[i]? =some G-> ∃cs,cs.length=r.n/\Bj w b (o+i*r.n) cs/\Ow w S d r cs y G)->
    ∃css,Ff w S d r css ys Fs/\Bj w b o css.flatten:=by
   intro n
   induction n with
   |zero=>
    intro o ys Fs h1 h2 _;obtain rfl:=AUM h1;obtain rfl:=AUM h2;exact⟨[],⟨rfl,rfl,by simp,fun i cs y G h=>by simp at h⟩,fun _ _ h=>by simp at h⟩
   |succ n ih=>
    intro o ys Fs h1 h2 hh;obtain⟨y,ys,rfl⟩:=AZh h1;obtain⟨G,Fs,rfl⟩:=AZh h2;obtain⟨cs,c1,c2,c3⟩:=hh 0 y G rfl rfl;obtain⟨css,d1,d2⟩:=ih (o+r.n) ys Fs (by simp_all) (by simp_all) (fun i z G hz hG=>by
     obtain⟨cs,e1,e2,e3⟩:=hh (i+1) z G (by simp_all) (by simp_all);grind)
    refine⟨cs::css,⟨by simp[d1.1],by omega,fun c hc=> ?_,fun i eY y' G' a b c=> ?_⟩,?_⟩
    ·rcases ASY.1 hc with rfl|hc
     ·omega
     ·exact d1.2.2.1 c hc
    ·cases i with
     |zero=>simp_all
     |succ i=>exact d1.2.2.2 i eY y' G' (by simp_all) (by simp_all) (by simp_all)
    grind[List.flatten_cons,Bj.append]
  obtain⟨css,k1,k2⟩:=key rows.length o rows Fs rfl hFl hr;refine⟨_,cap,css,Fs,[b],rfl,hle,k1,?_,.inr ⟨b,o,arr,ty,fr,rfl,hb,QW,hu,rfl,k2⟩⟩;grind
theorem mU{w:World}{S:Nat->Prop}:∀{r:Ty} {cs:List Value} {x:r.D},Rd w S r cs x->Ow w S 0 r cs x []
 | .cons c r,cs,x,hr=>by
  simp only[Rd]at hr;obtain⟨v,l,rfl,h1,h2⟩:=hr;simp only[Ow];exact⟨v,l,[],[],rfl,rfl,mU h1,mU h2⟩
 | .unit,_,_,hr=>by grind[Rd,Ow]
 | .int k,_,_,hr=>by grind[Rd,Ow]
 | .bool,_,_,hr=>by grind[Rd,Ow]
 | .str,_,_,hr=>by grind[Rd,Ow]
 | .sl q,_,_,hr=>by simp only[Ow];simp_all
theorem h_{P:Program}{E:Env}{w:World}{vw bx:List Bx}{G:ABU}(h:DQ E w vw bx G)(hw:Fg bx vw){x:AV}{v:Value}(hv:VR E w vw x v){r:Ty}{rows:List r.D}{RX:List Bx}{d:Nat}
  (e:pt bx x=some ⟨r,rows,RX,d⟩):1<=d/\ ∃E' F css Fs R,Hi E w vw bx G E' RX F/\F.Perm (List.flatten Fs++R)/\Ff w E'.S (d-1) r css rows Fs/\mV P w r.n rows.length v css.flatten:=by
 have plain:∀{B:Nat->Prop} {ys:List r.D},r.flat=true->Rd w B (.sl r) [v] ys-> ∀S:Nat->Prop,∃css,Ff w S 8 r css ys (List.replicate ys.length [])/\mV P w r.n ys.length v css.flatten:=by
  intro B ys hf hr S;simp only[Rd]at hr;obtain⟨a,cap,e1,hle,hr⟩:=hr;simp only[ATj,AVW]at e1;subst e1;rcases hr with hr|⟨b,o,rfl,_,hr⟩
  ·have:ys=[]:=AUM hr
   subst this;exact⟨[],⟨rfl,rfl,by simp,fun i cs y G h=>by simp at h⟩,Rs (css:=[]) rfl (by simp) (.inl rfl)⟩
  ·obtain⟨css,c1,c2,c3,c4⟩:=rK hr
   exact⟨css,Ff.flat hf c1 c2 c4,Rs c1 c2 (.inr ⟨b,o,rfl,c3⟩)⟩
 have done:∀{B:Nat->Prop} {ys:List r.D},r.flat=true->Rd w B (.sl r) [v] ys->rows=ys->RX=bx->d=9->
   1<=d/\ ∃E' F css Fs R,Hi E w vw bx G E' RX F/\F.Perm (List.flatten Fs++R)/\Ff w E'.S (d-1) r css rows Fs/\mV P w r.n rows.length v css.flatten:=by
  intro B ys hf hr e1 e2 e3;subst e1 e2 e3;obtain⟨css,k1,k2⟩:=plain hf hr E.S;exact⟨by omega,E,[],css,_,[],Hi.refl h,by simp,k1,k2⟩
 unfold pt at e;split at e
 ·rename_i s
  simp only[AON,ARQ]at e;obtain⟨rfl,e⟩:=e;have e:=AU_ e;simp only[AUW]at e;obtain⟨rfl,rfl,rfl⟩:=e;have Zh:=Yh hv;subst Zh;refine⟨by omega,E,[],s.map fun c=>[Value.int .u8 (c.toNat:Int)],_,[],Hi.refl h,?_,Ff.flat (B:=fun _=>False) rfl (by simp) (by simp[Ty.n]) (fun i cs y a b=> ?_),?_⟩
  ·simp
  ·simp only[AVI,AOP]at a b
   obtain⟨c1,z1,rfl⟩:=a;obtain⟨c2,z2,rfl⟩:=b;grind[Rd]
  grind[AFD,Ty.n]
 ·rename_i s q ys
  split at e
  ·rename_i hf
   simp only[AON,ARQ]at e;obtain⟨rfl,e⟩:=e;have e:=AU_ e;simp only[AUW]at e;obtain⟨rfl,rfl,rfl⟩:=e;exact done hf hv rfl rfl rfl
  ·split at e
   case isFalse=>cases e
   rename_i hs;simp only[AON,ARQ]at e;obtain⟨rfl,e⟩:=e;have e:=AU_ e;simp only[AUW]at e;obtain⟨rfl,rfl,rfl⟩:=e;subst hs;simp only[VR,AVR]at hv;simp only[Rd]at hv;obtain⟨a,cap,e1,hle,hr⟩:=hv;simp only[ATj,AVW]at e1;subst e1;have key:∃css:List (List Value),List.length css=ys.length/\(∀c∈css,c.length=q.n)/\(∀(i:Nat) cs y,css[i]? =some cs->ys[i]? =some y->Rd w E.S q cs y)/\mV P w q.n ys.length (.slice a ys.length cap) css.flatten:=by
    rcases hr with hr|⟨b,o,rfl,_,hr⟩
    ·have:ys=[]:=AUM hr
     subst this;exact⟨[],rfl,by simp,fun i cs y h=>by simp at h,Rs (css:=[]) rfl (by simp) (.inl rfl)⟩
    ·obtain⟨css,c1,c2,c3,c4⟩:=rK hr
     exact⟨css,c1,c2,c4,Rs c1 c2 (.inr ⟨b,o,rfl,c3⟩)⟩
   obtain⟨css,c1,c2,c3,c4⟩:=key;refine⟨ATX _,E,[],css,List.replicate ys.length [],[],Hi.refl h,by simp,⟨c1,by simp,c2,fun i cs y G a b c=> ?_⟩,c4⟩;grind[List.mem_of_getElem?,mU]
 ·rename_i b
  split at e
  case h_2=>cases e
  rename_i d0 q ys hb;split at e
  ·rename_i hf
   simp only[AON,ARQ]at e;obtain⟨rfl,e⟩:=e;have e:=AU_ e;simp only[AUW]at e;obtain⟨rfl,rfl,rfl⟩:=e;obtain⟨Fs,hB,hS⟩:=h;exact done hf (bh hw hB hS.st hv (q:=q) (ys:=ys) (by simp[OU,hb,HZ])) rfl rfl rfl
  ·simp only[AON,ARQ]at e
   obtain⟨rfl,e⟩:=e;have e:=AU_ e;simp only[AUW]at e;obtain⟨rfl,rfl,rfl⟩:=e;obtain⟨F,⟨hd,ho⟩,hB⟩:=h.take hb;have hvw:=Zz hw hb;simp only[VR,hvw,DL,AON]at hv;obtain⟨_,_,_,rfl⟩:=hv;obtain⟨m,rfl⟩:∃m,d0=m+1:=⟨d0-1,by omega⟩;obtain⟨a,cap,css,Fs,R,e1,hle,dZ,hp,hcase⟩:=p8 ho;refine⟨hd,E,F,css,Fs,R,⟨Le.refl _,by simp,fun n B hn=> ?_,hB⟩,hp,dZ,?_⟩
   ·grind
   ·rw[e1]
    refine Rs dZ.1 dZ.2.2.1 ?_
    grind
 ·rename_i b p _
  split at e
  case h_2=>cases e
  rename_i d0 q ys hb;simp only[AOc]at e;obtain⟨⟨q',zs⟩,e1,e⟩:=e;dsimp only at e;split at e
  case isFalse=>cases e
  rename_i hf;simp only[AON,ARQ]at e;obtain⟨rfl,e⟩:=e;have e:=AU_ e;simp only[AUW]at e;obtain⟨rfl,rfl,rfl⟩:=e;obtain⟨Fs,hB,hS⟩:=h;exact done hf (bh hw hB hS.st hv (q:=q') (ys:=zs) (by simp[OU,hb,e1])) rfl rfl rfl
 ·rename_i b p off n
  split at e
  case h_2=>cases e
  rename_i d0 q ys hb;simp only[AOc]at e;obtain⟨⟨q',zs⟩,e1,e⟩:=e;dsimp only at e;split at e
  case isFalse=>cases e
  rename_i hf;simp only[AON,ARQ]at e;obtain⟨rfl,e⟩:=e;have e:=AU_ e;simp only[AUW]at e;obtain⟨rfl,rfl,rfl⟩:=e;obtain⟨Fs,hB,hS⟩:=h;exact done hf (bh hw hB hS.st hv (q:=q') (ys:=(zs.drop off).take n) (by simp[OU,hb,e1])) rfl rfl rfl
 simp_all
theorem iI{E:Env}{w:World}{vw bx:List Bx}{G:ABU}(h:DQ E w vw bx G)(hw:Fg bx vw){x:AV}{v:Value}(hv:VR E w vw x v){r:Ty}{rows:List r.D}{RX:List Bx}{d:Nat}
  (e:p_ bx x=some ⟨r,rows,RX,d⟩):1<=d/\ ∃F1 F2,Hi E w vw bx G E RX (F1++F2)/\Ow w E.S d (.sl r) [v] rows F1:=by
 have tk:∀{b d0:Nat} {q:Ty} {ys:List q.D},bx[b]? =some (.sl d0 q ys)-> ∃F,1<=d0/\Ow w E.S d0 (.sl q) [E.IZ b] ys F/\Hi E w vw bx G E (bx.set b .dead) F:=by
  intro b d0 q ys hb;obtain⟨F,⟨hd,ho⟩,hB⟩:=h.take hb;refine⟨F,hd,ho,⟨Le.refl _,by simp,fun n B hn=> ?_,hB⟩⟩;grind
 unfold p_ at e;split at e
 ·rename_i b
  split at e
  case h_2=>cases e
  rename_i d0 q ys hb;simp only[AON,ARQ]at e;obtain⟨rfl,e⟩:=e;have e:=AU_ e;simp only[AUW]at e;obtain⟨rfl,rfl,rfl⟩:=e;obtain⟨F,hd,ho,hT⟩:=tk hb;have hvw:=Zz hw hb;simp only[VR,hvw,DL,AON]at hv;obtain⟨_,_,_,rfl⟩:=hv;exact⟨hd,F,[],by simp_all,ho⟩
 ·rename_i b off n
  split at e
  case h_2=>cases e
  rename_i d0 q ys hb;simp only[AON,ARQ]at e;obtain⟨rfl,e⟩:=e;have e:=AU_ e;simp only[AUW]at e;obtain⟨rfl,rfl,rfl⟩:=e;obtain⟨F,hd,ho,hT⟩:=tk hb;have hvw:=Zz hw hb;simp only[VR,hvw,DL,AON]at hv;obtain⟨_,_,q',zs,a,len,cap,h1,h2,h3,rfl⟩:=hv;simp only[HZ,AON,ARQ]at h1;obtain⟨rfl,h1⟩:=h1;obtain rfl:=AU_ h1;rw[h3]at ho;obtain⟨m,rfl⟩:∃m,d0=m+1:=⟨d0-1,by omega⟩;obtain⟨F1,F2,hp,y9⟩:=AHg ho h2;exact⟨hd,F1,F2,⟨hT.le,hT.len,hT.within,hT.boxes.perm (AXU _ hp)⟩,y9⟩
 simp_all
end Go.Fw
end
section
namespace Go.Fw
theorem iQ{P:Program}{w:World}{a:Option Addr}{n cap size:Nat}{css:List (List Value)}(hl:css.length=n)(hc:∀c∈css,c.length=size)
  (h:n=0\/ ∃b o,a=some ⟨b,o,none⟩/\Bj w b o css.flatten):∀w',w'.heap=w.heap->(Builtin.firstCells size n (.slice a n cap)).run P w' = .ok css.flatten.toArray w':=
 (Rs (P:=P) (cap:=cap) hl hc h).cells
theorem aV{z:Array Value}{n:Nat}:(Builtin.zeroCells z n).size=n*z.size:=size_zeroCells z n
section
variable{Y:Type} {P:Program} {T:KS} (hT:FE P T) {o:Oper} {E:Env} {σ:St} {a:Act} {w:World} {k:K Y} {y:Y}
include hT
theorem oS(h:Rel E σ a w){E2:Env}{cI:List Bx}{F Fd R:ABU}{t u ty:TypeId}{ts:Array TypeId}(xf:ts[0]? =some t)(wq:ts[1]? =some u)
  (hu:(∃e,P.underlying u=some (.slice e))\/P.underlying u=some .string) {m:Nat} {r:Ty} (Vb:T.OW t r=true)
  (kT:Hi E w σ.bx σ.bx [] E2 cI F) {v1 v2:Value} {drows Tu:List r.D} {css:List (List Value)} {Fs:List ABU}
  (ho:Ow w E2.S (m+1) (.sl r) [v1] drows Fd) (hs:Ff w E2.S m r css Tu Fs) (hn:mV P w r.n Tu.length v2 css.flatten) (hp:F.Perm (Fd++Fs.flatten++R)) (ZQ:drows.length+Tu.length<=C_):
  ∃v w' E',(Builtin.append_ ts ty #[v1,v2]).run P w= .ok v w'/\Rel E' { σ with bx:=cI++[.sl (m+1) r (drows++Tu)] } a w'/\Sk [] E σ.bx w E' (cI++[.sl (m+1) r (drows++Tu)]) w'/\
   XR E' w' (cI++[.sl (m+1) r (drows++Tu)]) (.c (.ref cI.length [])) v:=by
 obtain⟨e,ti,hut,Vz,hs1,hby,hrow⟩:=LJ hT Vb;obtain⟨i,z,i1,i2,i3,i4,i5,hg⟩:=Xr hT Vz hrow;rw[hs1]at i2;obtain⟨Fs0,hB1,ZI⟩:=kT.boxes;simp only[AQO]at ZI;have hdF:∀c∈Fd,c∈F:=fun c hc=>hp.mem_iff.2 (by simp[hc])
 have hsF:∀c∈Fs.flatten,c∈F:=fun c hc=>hp.mem_iff.2 (by simp_all)
 have ndF:=(ARZ.1 (hp.nodup_iff.1 (ARZ.1 ZI.nodup).2.1)).1;have ltF:∀c∈F,c<w.heap.size:=fun c hc=>ZI.lt c (by simp_all)
 have AfV:∀c∈F,¬E2.S c:=fun c hc hS=>ZI.free c (by simp_all) (ZI.st c hS)
 have ho0:=ho;obtain⟨ad,cap,dcss,Fs1,R1,rfl,hle,hd,hp1,hcase⟩:=p8 ho;have Xq:css.flatten.length=Tu.length*r.n:=by rw[ID hs.2.2.1,hs.1]
 have zQ:dcss.flatten.length=drows.length*r.n:=by rw[ID hd.2.2.1,hd.1]
 by_cases UK:drows.length+Tu.length<=cap
 ·rcases hcase with⟨h0,hF0⟩|⟨b,of,arr,ty0,fr,rfl,hb,QW,hunf,rfl,hc⟩
  ·
   have hd0:drows=[]:=AUM (by omega);have hs0:Tu=[]:=AUM (by omega);subst hd0 hs0;have hc0:css=[]:=AUM hs.1;subst hc0 h0;have nh:=pK (P:=P) (w:=w) (ty:=ty) xf wq hut hu i1 i2 (a:=ad) (x:=v2) (by simp_all);obtain⟨r1,r2,r3⟩:=Uh h kT (w':=w) (d:=m+1) (by omega) ho0 (fun c hc=> .inl (hdF c hc)) (ARZ.1 ndF).1 (fun c hc=>ltF c (hdF c hc)) (fun _ _ _=>rfl) ⟨rfl,rfl,rfl,ATX _⟩;grind
  ·
   have eZ:of+drows.length*r.n+css.flatten.length<=arr.size:=by
    have:(drows.length+Tu.length)*r.n<=cap*r.n:=ASH _ UK;grind
   have nh:=iE (P:=P) (w:=w) (ty:=ty) xf wq hut hu i1 i2 (b:=b) (o:=of) hn UK (Vj hb eZ hunf) hs.one;have hbF:b∈F:=hdF b (by simp);have ew:∀c,c∈Fs1.flatten\/c∈Fs.flatten\/E2.S c->c≠b:=by
    grind
   have gG:∀c,c≠b->(w.setCells b (of+drows.length*r.n) css.flatten).heap[c]? =w.heap[c]?:=fun c hc=>Dd _ _ _ _ _ hc
   have yc:=hd.mono (w':=w.setCells b (of+drows.length*r.n) css.flatten) (S':=E2.S) (fun _ h=>h) (fun c hc=>gG c (ew c (.inr (.inr hc)))) (fun c hc=>gG c (ew c (.inl hc)));have hs':=hs.mono (w':=w.setCells b (of+drows.length*r.n) css.flatten) (S':=E2.S) (fun _ h=>h) (fun c hc=>gG c (ew c (.inr (.inr hc)))) (fun c hc=>gG c (ew c (.inr (.inl hc))));have jH:=yc.append hs';have AGk:Bj (w.setCells b (of+drows.length*r.n) css.flatten) b of (dcss++css).flatten:=by
    grind[List.flatten_append,Bj.append,U8,PS]
   have how:Ow (w.setCells b (of+drows.length*r.n) css.flatten) E2.S (m+1) (.sl r) [.slice (some ⟨b,of,none⟩) (drows.length+Tu.length) cap] (drows++Tu) (b::(Fs1++Fs).flatten):=by
    simp only[Ow];refine⟨_,cap,by rw[ASB],by simp_all,.inr ⟨b,of,_,ty0,fr,Fs1++Fs,rfl,F6 _ _ _ _ _ _ _ hb,by rw[Fy];omega,by rw[Fy];omega,rfl,jH.2.1,fun j q G hq hG=> ?_⟩⟩;have hj:=(AOS.1 hq).1;have h1:=jH.1;have zA:j<(dcss++css).length:=by omega
    refine⟨(dcss++css)[j],jH.2.2.1 _ (AO7 _),fun x u hx=> ?_,jH.2.2.2 j _ _ _ (AOM zA) hq hG⟩;have hxl:=(AOS.1 hx).1;rw[jH.2.2.1 _ (AO7 _)]at hxl;have:=Zf (n:=r.n) (css:=dcss++css) (ex:=[]) (i:=j) jH.2.2.1 (AOM zA) hxl;rw[AQO,hx]at this;have:=AGk _ _ this;grind
   have qS:(b::(Fs1++Fs).flatten)=(b::Fs1.flatten)++Fs.flatten:=by simp
   rw[qS]at how;obtain⟨r1,r2,r3⟩:=Uh h kT (w':=w.setCells b (of+drows.length*r.n) css.flatten) (d:=m+1) (by omega) how (fun c hc=> .inl ((ARh.1 hc).elim (hdF c) (hsF c))) ndF
    (fun c hc=>by grind[Dq]) (fun c hc hcF=>gG c (fun e=>hcF (e▸hbF))) (CH _ _ _ _)
   grind
 ·
  have hold:drows.length=0\/ ∃b o,ad=some ⟨b,o,none⟩/\Bj w b o dcss.flatten:=by
   grind
  have nh:=dy (P:=P) (w:=w) (ty:=ty) xf wq hut hu i1 i4 i2 (iQ (P:=P) (cap:=cap) hd.1 hd.2.2.1 hold) hn (by omega) ZQ (by omega);have yz:=grownCap_ge w (drows.length+Tu.length) cap e
  generalize hgc:grownCap w (drows.length+Tu.length) cap e=gc at nh yz
  let arr:Array Value:=dcss.flatten.toArray++css.flatten.toArray++Builtin.zeroCells z.cells (gc-(drows.length+Tu.length))
  have eR:arr.toList=(dcss++css).flatten++(Builtin.zeroCells z.cells (gc-(drows.length+Tu.length))).toList:=by simp[arr]
  have hzl:z.cells.size=r.n:=by rw[<-AYg,i5,HM]
  have AdM:arr.size=gc*r.n:=by
   simp only[arr,AZq,AZr,aV,hzl,Xq,zQ,<-AVn];simp_all
  let w':=w.drew.alloc (.cells arr e)
  have new:w'.heap[w.heap.size]? =some (.cells arr e):=by
   show(w.heap.push (.cells arr e))[w.heap.size]? =_
   simp
  have AGw:∀c,c<w.heap.size->w'.heap[c]? =w.heap[c]?:=fun c hc=>JV (w:=w) (o:= .cells arr e) hc
  have hR1:∀c∈Fs1.flatten,c∈Fd:=fun c hc=>hp1.mem_iff.2 (by simp_all)
  have yc:=hd.mono (w':=w') (S':=E2.S) (fun _ h=>h) (fun c hc=>AGw c (ZI.eT c (ZI.st c hc))) (fun c hc=>AGw c (ltF c (hdF c (hR1 c hc))));have hs':=hs.mono (w':=w') (S':=E2.S) (fun _ h=>h) (fun c hc=>AGw c (ZI.eT c (ZI.st c hc))) (fun c hc=>AGw c (ltF c (hsF c hc)));have jH:=yc.append hs';have how:Ow w' E2.S (m+1) (.sl r) [.slice (some ⟨w.heap.size,0,none⟩) (drows++Tu).length gc] (drows++Tu) (w.heap.size::(Fs1++Fs).flatten):=
   en new eR jH.1 (by simp_all) (by omega) (Xt _) jH.2.1 jH.2.2.2
  rw[ASB]at how;have VP:∀c∈(Fs1++Fs).flatten,c∈Fd++Fs.flatten:=by
   grind
  have nd1:(Fs1++Fs).flatten.Nodup:=by
   grind
  have AiA:∀c∈(Fs1++Fs).flatten,c∈F:=fun c hc=>(ARh.1 (VP c hc)).elim (hdF c) (hsF c)
  obtain⟨r1,r2,r3⟩:=Uh h kT (w':=w') (d:=m+1) (by omega) how (by
    simp_all) (by
    grind) (by
    grind) (fun c hc _=>AGw c hc) ⟨rfl,rfl,rfl,by simp[w']⟩
  grind
end
end Go.Fw
end
section
namespace Go.Fw
theorem YX{α β:Type}{args:Array α}{f:α->β}{x y:β}(h:args.toList.map f=[x,y]):∃a b,args= #[a,b]/\f a=x/\f b=y:=by
 obtain⟨l⟩:=args
 match l,h with
 |[a,b],h=>grind
theorem Yc{α β:Type}{args:Array α}{f:α->β}{x:β}(h:args.toList.map f=[x]):∃a,args= #[a]/\f a=x:=by
 obtain⟨l⟩:=args;simp_all
section
variable{Y:Type} {P:Program} {T:KS} (hT:FE P T) {o:Oper} {E:Env} {σ:St} {a:Act} {w:World} {k:K Y} {y:Y}
include hT
theorem xF(h:Rel E σ a w){c:Call}{x1 x2:XV}(ho:o.op= .call c)(hc:c.callee= .builtin .append)(I4:c.args.toList.map σ.ev=[x1,x2])(e:gU T c.argTypes σ x1 x2 k=some y):Ma P o E σ a w k y:=by
 obtain⟨o1,o2,hargs',rfl,rfl⟩:=YX I4;have eL:=h.ev o1;have aP:=h.ev o2;have exec:∀{v w'},(Builtin.append_ c.argTypes o.type #[a.eval o1,a.eval o2]).run P w= .ok v w'->(execOp a.eval o).run P w= .ok (.value v) w':=by
  intro v w' hr;simp only[execOp,ho,resolve,hc,hargs',invoke,builtin,Sem.run_bind,Sem.run_pure,Result.andThen_ok,List.map_toArray,AW2,AZm,hr]
 unfold gU at e;split at e
 case h_2=>cases e
 rename_i t u xf wq;split at e
 case isFalse=>cases e
 rename_i hu;have hu':(∃e,P.underlying u=some (.slice e))\/P.underlying u=some .string:=by
  rw[AVX]at hu;grind[mC,YQ]
 split at e
 ·
  rename_i z hz1 hz2;rw[hz1]at eL;rw[hz2]at aP;simp only[AOc]at e;obtain⟨⟨r,rows,RX,d⟩,e1,e⟩:=e;dsimp only at e;split at e
  case isFalse=>cases e
  rename_i Vb;split at e
  case isFalse=>cases e
  rename_i ZQ;obtain⟨hd,E',F,css,Fs,R,kT,hp,hs,hn⟩:=h_ (P:=P) h.bx (Fg.refl _) aP e1;obtain⟨m,rfl⟩:∃m,d=m+1:=⟨d-1,by omega⟩;have Abf:a.eval o1= .slice none 0 0:=eL;obtain⟨v,w',E3,hr,r1,r2,r3⟩:=oS hT h (ty:=o.type) xf wq hu' Vb kT (v1:= .slice none 0 0) (Fd:=[]) (drows:=[]) qL hs hn (R:=R) (by simp_all) (by simp_all);rw[<-Abf]at hr;simp only[AVJ]at r1 r3;exact⟨_,_,_,_,_,.inl (exec hr),r1,r3,r2.any,rfl,e⟩
 ·rename_i z1 z2 hnn hz1 hz2
  rw[hz1]at eL;rw[hz2]at aP;simp only[AOc]at e;obtain⟨⟨r,rows,lr,d⟩,e1,e⟩:=e;dsimp only at e;split at e
  case isFalse=>cases e
  rename_i Vb;simp only[AOc]at e;obtain⟨⟨q,srows0,cI,ds⟩,e2,Tu,e3,e⟩:=e;dsimp only at e e3;obtain⟨hqr,e4⟩:=Ij e3;subst hqr;subst e4;dsimp only at e;split at e
  case isFalse=>cases e
  rename_i ZQ;obtain⟨hd,F1,F2,k1,ho1⟩:=iI h.bx (Fg.refl _) eL e1;obtain⟨hds,E',F3,css,Fs,R,k2,hp,hs,hn⟩:=h_ (P:=P) k1.boxes ((Fg.refl _).ql k1) aP e2;obtain⟨m,hm⟩:∃m,min d ds=m+1:=⟨min d ds-1,by omega⟩;rw[hm]at e;obtain⟨A,W1,p1,ho1'⟩:=Ki (d:=m+1) (by omega) ho1;obtain⟨Gs,W2,p2,hs'⟩:=hs.weaken (d':=m) (by omega);have hB:=k2.boxes.perm (G':=(A++Gs.flatten++(R++F2))++(W1++W2)++[]) (by
   grind)
  obtain⟨hle,ZI⟩:=hB.share;have kT:Hi E w σ.bx σ.bx [] _ cI (A++Gs.flatten++(R++F2)):=⟨(k1.le.trans k2.le).trans hle,k2.len.trans k1.len,fun b B hb=>(k2.within b B hb).elim .inl (k1.within b B),ZI⟩;have ho2:Ow w (fun c=>E'.S c\/c∈W1++W2) (m+1) (.sl q) [a.eval o1] rows A:=
   En (fun c hc=>hc.imp (k2.le.S c) (by simp_all)) (fun _ _=>rfl) (fun _ _=>rfl) ho1'
  have hs2:Ff w (fun c=>E'.S c\/c∈W1++W2) m q css srows0 Gs:=hs'.mono (fun c hc=>hc.imp id (by simp_all)) (fun _ _=>rfl) (fun _ _=>rfl);obtain⟨v,w',E3,hr,r1,r2,r3⟩:=oS hT h (ty:=o.type) xf wq hu' Vb kT ho2 hs2 hn (AZ8 _) ZQ;exact⟨_,_,_,_,_,.inl (exec hr),r1,r3,r2.any,rfl,e⟩
 simp_all
end
end Go.Fw
end
section
namespace Go.Fw
theorem pP{P:Program}{w:World}{b o:Nat}{ty:TypeId}{v:Value}(ht:w.there b o v.cells.toList.length)(hi:(P.info? ty).map (·.size)=some v.cells.toList.length)(h1:∀u∈v.cells.toList,u.oneCell' =true):
  (Instr.storeAt ty (.pointer (some ⟨b,o,none⟩)) v).run P w= .ok () (w.setCells b o v.cells.toList):=by
 have:=run_storeCells_cells (P:=P) b o v.cells.toList 0 w (fun j hj=>by simpa using(ht j hj).1) (fun j hj=>by simpa using(ht j hj).2) h1;cases hq:P.info? ty with
 |none=>simp_all
 |some i=>
  have hs:v.cells.size=i.size:=by simp_all
  simp only[AW4]at this;simp[Instr.storeAt,Instr.sureAddr,storeVar,sizeOf,typeInfo,hq,hs,this]
theorem cm{E E1 E':Env}{w w':World}{vw lr RX:List Bx}{F:ABU}(b0:Nat)(k:Hi E w vw vw [] E1 lr F)(st:∀c,E.S c->E.T c)(hlen:vw.length<=RX.length)
  (wg:∀b d r rows,b≠b0->b<vw.length->RX[b]? =some (.sl d r rows)->lr[b]? =some (.sl d r rows)) (AGL:∀b,b<vw.length->E'.Ia b=E1.Ia b) (pD:∀b,b<vw.length->E'.IZ b=E1.IZ b) (hT:E'.T=E1.T) (hS:E'.S=E1.S)
  (hw:∀c,c<w.heap.size->c∉F->w'.heap[c]? =w.heap[c]?)
  (h0:∀d r rows,RX[b0]? =some (.sl d r rows)-> ∃d0 S7,vw[b0]? =some (.sl d0 r S7)/\
   ∀p,DT r S7 p-> ∀q ys,HZ r S7 p=some ⟨q,ys⟩->DT r rows p/\(∃wi,HZ r rows p=some ⟨q,wi⟩/\List.length wi=List.length ys)/\
    ∀h,JU w (E.IZ b0) p=some h->JU w' (E'.IZ b0) p=some h):T8 E w vw E' w' RX:=by
 have hB:=k.boxes;obtain⟨Fs,⟨h1,h2⟩,h3⟩:=hB;simp only[AQO]at h3;have zB:∀c,E1.T c->w'.heap[c]? =w.heap[c]?:=fun c hc=>hw c (h3.eT c hc) fun hf=>h3.free c (by simp[hf]) hc
 refine⟨hlen,fun b hb=>by rw[AGL b hb,k.le.Ia],fun c hc=>by rw[hT];exact k.le.T c hc,fun c hc=>by rw[hS];exact k.le.S c hc,st,fun c hc=>zB c (k.le.T c hc),fun b d r rows hb e=> ?_⟩;by_cases hb0:b=b0
 ·simp_all
 have e1:=wg b _ _ _ hb0 hb e;rcases k.within b _ e1 with e2|e2
 ·cases e2
 ·refine⟨d,rows,e2,fun p hp q ys hg=>⟨hp,⟨ys,hg,rfl⟩,fun h' hh=> ?_⟩⟩
  have hF:Fs[b]? =some (Fs[b]'(by grind)):=AOM _;obtain⟨hd,ho⟩:=h2 b _ _ e1 hF;rw[pD b hb];rw[<-k.le.IZ]at hh;refine v7 ho (fun c hc=>zB c (h3.st c hc)) (fun c hc=> ?_) hp hg hh;have VP:c∈Fs.flatten:=AVK.2 ⟨_,ASU hF,hc⟩;exact hw c (h3.lt c (by simp[VP])) fun hf=>(ARZ.1 h3.nodup).2.2 c VP c hf rfl
def Bx.map(f:AV->AV):Bx->Bx
 | .mem cs=> .mem (cs.map f)
 |B=>B
theorem DQ.AV9{E E':Env}{w w':World}{vw vw' bx:List Bx}{G:ABU}(f:AV->AV)(h:DQ E w vw bx G)(k:∀x v,VR E w vw x v->VR E' w' vw' (f x) v)
  (hS:∀c,E.S c->E'.S c) (AGL:∀b,b<bx.length->E'.Ia b=E.Ia b) (pD:∀b,b<bx.length->E'.IZ b=E.IZ b)
  (hw:∀c,(E.S c\/(¬E.T c/\c∉G))->c<w.heap.size->w'.heap[c]? =w.heap[c]?)
  (AHY:∀F,Sep E w (F++G)->Sep E' w' (F++G)):DQ E' w' vw' (bx.map (Bx.map f)) G:=by
 obtain⟨Fs,⟨hl,h1⟩,h2⟩:=h;refine⟨Fs,⟨by simp_all,fun n B F hn hF=> ?_⟩,AHY _ h2⟩;rw[AVI,AOP]at hn;obtain⟨B,hn,rfl⟩:=hn;have Ha:=(AOS.1 hn).1;have h3:=h1 n B F hn hF;have ATC:∀c∈F,c∈Fs.flatten:=fun c hc=>AVK.2 ⟨F,ASU hF,hc⟩
 have hFw:∀c∈F,w'.heap[c]? =w.heap[c]?:=fun c hc=>hw c (.inr ⟨h2.free c (by simp_all),fun hg=>by
  have:=(ARZ.1 h2.nodup).2.2 c (ATC c hc) c hg;omega⟩) (h2.lt c (by simp_all))
 have uk:∀c,E.S c->w'.heap[c]? =w.heap[c]?:=fun c hc=>hw c (.inl hc) (h2.eT c (h2.st c hc))
 cases B with
 |mem cs=>
  obtain⟨rfl,arr,ty,fr,ha,hu,hv⟩:=h3;refine⟨by simp_all,arr,ty,fr,?_,hu,Cg.MR f k hv⟩;simp_all
 |sl d r rows=>
  obtain⟨hd,ho⟩:=h3;refine⟨hd,?_⟩;grind[En]
 |dead=>exact h3
theorem Bx.map_id:∀B:Bx,Bx.map id B=B
 | .mem cs=>by simp[Bx.map]
 | .sl _ _ _=>rfl
 | .dead=>rfl
theorem ba(bx:List Bx):bx.map (Bx.map id)=bx:=by
 induction bx with
 |nil=>rfl
 |cons B l ih=>simp[ih,Bx.map_id]
theorem oX(b:Nat)(bx:List Bx):bx.map (ABX b)=bx.map (Bx.map (KO b)):=by
 rfl
theorem ADh{E:Env}{σ:St}{a:Act}{w:World}(h:Rel E σ a w){b j:Nat}{cs eY:List AV}(hb:σ.bx[b]? =some (.mem cs)){xs:List AV}{vs:List Value}(hx:kM E w σ.bx xs vs)(ew:xs≠[])
  (e:Yx cs j xs=some eY):
  w.there (E.Ia b) j vs.length/\Rel E { σ with bx:=σ.bx.set b (.mem eY) } a (w.setCells (E.Ia b) j vs)/\Sk [b] E σ.bx w E (σ.bx.set b (.mem eY)) (w.setCells (E.Ia b) j vs):=by
 have st:=h.bx.st;obtain⟨F,⟨rfl,arr,ty,fr,ha,hu,hv⟩,hB⟩:=h.bx.take hb;simp only[AQO]at hB;have Ha:=(AOS.1 hb).1;rcases Yg hv hx e with⟨h1,h2⟩|⟨h1,_⟩
 case inr=>simp_all
 have eZ:j+vs.length<=arr.size:=by
  have l1:=Cg.len hv;have l2:=Cg.len hx;simp_all
 have dr: ¬E.T (E.Ia b):=hB.AG4 _ (by simp);have hB0:=hB;have gG:∀c,c≠E.Ia b->(w.setCells (E.Ia b) j vs).heap[c]? =w.heap[c]?:=fun c hc=>Dd _ _ _ _ _ hc
 have hw:∀c,c<w.heap.size->c∉[E.Ia b]->(w.setCells (E.Ia b) j vs).heap[c]? =w.heap[c]?:=fun c _ hc=>gG c (by simp_all)
 have kT:Hi E w σ.bx σ.bx [] E (σ.bx.set b .dead) [E.Ia b]:=⟨Le.refl _,by simp,fun n B hn=>by
  grind,by simp_all⟩
 have keep:T8 E w σ.bx E (w.setCells (E.Ia b) j vs) (σ.bx.set b (.mem eY)):=cm b kT st (by simp) (fun n d r rows hn _ hq=>by
   grind) (fun _ _=>rfl) (fun _ _=>rfl) rfl rfl hw (fun d r rows hq=>by
   simp_all)
 refine⟨Vj ha eZ hu,⟨h.Od,h.tm.imp fun _ _ hq=>P5 keep hq,?_⟩,⟨⟨fun _ h=>h,fun _ h=>h,fun _ h=> .inl h,fun _ h=> .inl h,fun c hc=>gG c (fun e=>dr (e▸hc)),(CH _ _ _ _).os,(CH _ _ _ _).tape,(CH _ _ _ _).output,(CH _ _ _ _).size⟩,by simp,fun _ _=>⟨rfl,rfl⟩,fun n hn=>by
  grind,fun n B B' si hB Uf hnd=>by
  simp at si;rw[AVL (fun e=>si e.symm),hB]at Uf;cases Uf;refine⟨WS.refl hnd,fun c hc=>gG c (fun e=> ?_)⟩;obtain⟨Fs,⟨f1,f2⟩,f3⟩:=hB0;have ZI:(σ.bx.set b .dead)[n]? =some B:=by grind
  have hF:Fs[n]? =some (Fs[n]'(by grind)):=AOM _;rcases gH (f2 n B _ ZI hF) hc with hs|hs
  ·simp_all
  ·exact(ARZ.1 f3.nodup).2.2 c (AVK.2 ⟨_,ASU hF,hs⟩) (E.Ia b) (by simp) e⟩⟩
 have hT:=hB.turn (E':=E) (w':=w.setCells (E.Ia b) j vs) (vw':=σ.bx.set b (.mem eY)) (fun x v hq=>Gi keep hq) (fun _ h=>h) (fun _ _=>rfl) (fun _ _=>rfl) (fun c hc _=>gG c (fun e=>by
   simp_all)) (fun F hF=>⟨hF.nodup,hF.free,fun c hc=>by rw[Dq];exact hF.lt c hc,hF.st,fun c hc=>by rw[Dq];exact hF.eT c hc⟩)
 have:=DQ.put (b:=b) (B:= .mem eY) (F:=[E.Ia b]) (G:=[]) (by simpa using hT) (by simp_all) ⟨rfl,Fc arr j vs,ty,fr,F6 _ _ _ _ _ _ _ ha,by rw[Fy];omega,h1.imp fun _ _ hq=>Gi keep hq⟩;simp_all
theorem YU:∀{r:Ty} {j j':Nat} {x:r.D} {t:Ty} {y:t.D} {x':r.D},EK r j x t y=some x'->j'≠j->Ba r j' x' =Ba r j' x
 | .cons c r,0,j',x,t,y,x',e,hj=>by
  simp only[EK]at e;split at e
  ·rename_i h
   subst h;simp only[AON]at e;subst e;cases j' with
   |zero=>omega
   |succ j' =>rfl
  simp_all
 | .cons c r,j+1,j',x,t,y,x',e,hj=>by
  simp only[EK,AOP]at e;obtain⟨z,e1,rfl⟩:=e;cases j' with
  |zero=>rfl
  |succ j' =>
   simp only[Ba];exact YU e1 (by omega)
 | .unit,_,_,_,_,_,_,e,_=>by rfl
 | .int k,0,j',x,t,y,x',e,hj=>by cases j' with
  |zero=>omega
  |succ j' =>rfl
 | .bool,0,j',x,t,y,x',e,hj=>by cases j' with
  |zero=>omega
  |succ j' =>rfl
 | .str,0,j',x,t,y,x',e,hj=>by cases j' with
  |zero=>omega
  |succ j' =>rfl
 | .sl _,0,j',x,t,y,x',e,hj=>by cases j' with
  |zero=>omega
  |succ j' =>rfl
 | .int _,_+1,_,_,_,_,_,e,_=>by simp[EK]at e
 | .bool,_+1,_,_,_,_,_,e,_=>by simp[EK]at e
 | .str,_+1,_,_,_,_,_,e,_=>by simp[EK]at e
 | .sl _,_+1,_,_,_,_,_,e,_=>by simp[EK]at e
theorem Vw:∀{r:Ty} {j:Nat} {x:r.D} {t:Ty} {y:t.D} {x':r.D},EK r j x t y=some x'->Ba r j x' =some ⟨t,y⟩/\ ∃y0:t.D,Ba r j x=some ⟨t,y0⟩
 | .cons c r,0,x,t,y,x',e=>by
  simp only[EK]at e;split at e
  ·rename_i h
   subst h;simp only[AON]at e;subst e;exact⟨rfl,_,rfl⟩
  simp_all
 | .cons c r,j+1,x,t,y,x',e=>by
  simp only[EK,AOP]at e;obtain⟨z,e1,rfl⟩:=e;simp only[Ba];exact Vw e1
 | .unit,_,_,_,_,_,e=>by simp[EK]at e
 | .int k,0,x,t,y,x',e=>by
  simp only[EK]at e;split at e
  ·rename_i h;subst h;cases e;exact⟨rfl,_,rfl⟩
  simp_all
 | .bool,0,x,t,y,x',e=>by
  simp only[EK]at e;split at e
  ·rename_i h;subst h;cases e;exact⟨rfl,_,rfl⟩
  simp_all
 | .str,0,x,t,y,x',e=>by
  simp only[EK]at e;split at e
  ·rename_i h;subst h;cases e;exact⟨rfl,_,rfl⟩
  simp_all
 | .sl _,0,x,t,y,x',e=>by
  simp only[EK]at e;split at e
  ·rename_i h;subst h;cases e;exact⟨rfl,_,rfl⟩
  simp_all
 | .int _,_+1,_,_,_,_,e=>by simp[EK]at e
 | .bool,_+1,_,_,_,_,e=>by simp[EK]at e
 | .str,_+1,_,_,_,_,e=>by simp[EK]at e
 | .sl _,_+1,_,_,_,_,e=>by simp[EK]at e
theorem nD{r:Ty}{rows:List r.D}{i k:Nat}{x:r.D}(hi:i<rows.length):rowAt r (rows.set i x) k=if k=i then x else rowAt r rows k:=by
 unfold rowAt;grind
theorem qk:∀{p:List Xw} {r:Ty} {rows DE:List r.D} {q:Ty} {ys wi:List q.D},HZ r rows p=some ⟨q,ys⟩->wi.length=ys.length->qP r rows p q wi=some DE->DE.length=rows.length
 |[],r,rows,DE,q,ys,wi,h1,h2,h3=>by
  simp only[HZ,AON,ARQ]at h1;obtain⟨rfl,h1⟩:=h1;obtain rfl:=AU_ h1;simp only[qP,AZv,SC,AON]at h3;simp_all
 |s::p,r,rows,DE,q,ys,wi,h1,h2,h3=>by
  simp only[qP]at h3;split at h3
  ·simp only[AOc,AOP]at h3
   grind
  simp_all
theorem oZ{t:Ty}(ht:t.scalar=true){y:t.D}{q:Ty}{i j:Nat}:∀{p':List Xw} {r:Ty} {rows DE:List r.D} {p:List Xw} {ys:List q.D} {b_:q.D},DT r rows p->HZ r rows p=some ⟨q,ys⟩->i<ys.length->
  EK q j (rowAt q ys i) t y=some b_->qP r rows p q (ys.set i b_)=some DE->DT r rows p'-> ∀q' zs,HZ r rows p' =some ⟨q',zs⟩->
   DT r DE p'/\ ∃zs',HZ r DE p' =some ⟨q',zs'⟩/\List.length zs' =List.length zs
 |[],r,rows,DE,p,ys,b_,_,hg,hi,hc,hs,_,q',zs,yO=>by
  simp only[HZ,AON,ARQ]at yO;obtain⟨rfl,yO⟩:=yO;obtain rfl:=AU_ yO;exact⟨by simp[DT],DE,by rfl,qk hg (by simp) hs⟩
 |s'::p',r,rows,DE,p,ys,b_,hp,hg,hi,hc,hs,hp',q',zs,yO=>by
  have hlen:=qk hg (by simp) hs;simp only[DT]at hp'|-;obtain⟨g1,g2,g3⟩:=hp';simp only[HZ]at yO|-;split at yO
  case h_2=>cases yO
  rename_i q0 x0 jl;rw[jl]at g3;dsimp only at g3;have key:∃x1,Ba r s'.j (rowAt r DE s'.i)=some ⟨.sl q0,x1⟩/\DT q0 x1 p'/\ ∃zs',HZ q0 x1 p' =some ⟨q',zs'⟩/\List.length zs' =List.length zs:=by
   have same:Ba r s'.j (rowAt r DE s'.i)=some ⟨.sl q0,x0⟩-> ∃x1,Ba r s'.j (rowAt r DE s'.i)=some ⟨.sl q0,x1⟩/\DT q0 x1 p'/\ ∃zs',HZ q0 x1 p' =some ⟨q',zs'⟩/\List.length zs' =List.length zs:=
    fun h=>⟨x0,h,g3,zs,yO,rfl⟩
   cases p with
   |nil=>
    simp only[HZ,AON,ARQ]at hg;obtain⟨rfl,hg⟩:=hg;obtain rfl:=AU_ hg;simp only[qP,AZv,SC,AON]at hs;subst hs;apply same;rw[nD hi];split
    ·rename_i e
     subst e;by_cases ej:s'.j=j
     ·obtain⟨_,y0,h0⟩:=Vw hc
      rw[ej,h0]at jl;simp only[AON,ARQ]at jl;obtain⟨rfl,_⟩:=jl;simp[Ty.scalar]at ht
     grind[YU]
    omega
   |cons s p=>
    simp only[DT]at hp;obtain⟨k1,k2,k3⟩:=hp;simp only[HZ]at hg;split at hg
    case h_2=>cases hg
    rename_i r' x hcx;rw[hcx]at k3;dsimp only at k3;simp only[qP,hcx,AOc,AOP]at hs;obtain⟨x',hs1,row2,hs2,rfl⟩:=hs;rw[nD k1];rw[nD k1]at same;split
    ·rename_i e
     rw[AOJ e]at same;rw[e]at jl;by_cases ej:s'.j=s.j
     ·rw[ej]at jl|-
      rw[hcx]at jl;simp only[AON,ARQ,Ty.sl.injEq]at jl;obtain⟨rfl,jl⟩:=jl;obtain rfl:=AU_ jl;obtain⟨m1,m2⟩:=oZ ht k3 hg hi hc hs1 g3 q' zs yO;grind[Vw]
     grind[YU]
    simp_all
  grind
theorem um{w w':World}{B:Nat->Prop}(bt:∀A,w'.cell? A=w.cell? A\/ ∃v,w'.cell? A=some v/\isSlice v=false):∀{p:List Xw} {r:Ty} {h:Value} {rows:List r.D} {hh:Value},
  Rd w' B (.sl r) [h] rows->DT r rows p->JU w h p=some hh->JU w' h p=some hh
 |[],_,h,_,hh,_,_,e=>by grind[DL]
 |s::p,r,h,rows,hh,hr,hp,e=>by
  simp only[DT]at hp;obtain⟨hi,QW,hp⟩:=hp;simp only[Rd]at hr;obtain⟨a,cap,e1,_,hr⟩:=hr;obtain rfl:=(List.cons.inj e1).1;rcases hr with hr|⟨b,o,rfl,hb,hr⟩
  ·omega
  obtain⟨cs,hl,hc,hrow⟩:=hr s.i _ (SV hi);split at hp
  case h_2=>exact hp.elim
  rename_i q x jl;obtain⟨v,hv,hrv⟩:=gK hrow jl;have hcv:=hc _ _ hv;rw[<-QW]at hcv;simp only[JU]at e|-;split at e
  case h_2=>cases e
  rename_i v0 hv0;rcases bt ⟨b,o+s.i*s.sz+s.j,none⟩with h1|⟨u,h1,h2⟩
  ·rw[h1,hv0]
   rw[h1,hv0]at hcv;cases hcv;exact um bt hrv hp e
  ·rw[hcv]at h1
   cases h1;simp only[Rd]at hrv;obtain⟨_,_,e2,_⟩:=hrv;simp only[ATj,AVW]at e2;grind[isSlice]
theorem AGv{E E':Env}{w w':World}{vw vw':List Bx}{b d d':Nat}{r:Ty}{rows DE:List r.D}(k:T8 E w vw E' w' (vw'.set b .dead))(hb:vw[b]? =some (.sl d r rows))(hb':vw'[b]? =some (.sl d' r DE))(hl:DE.length=rows.length)
  (hh:E'.IZ b=E.IZ b) {x:AV} {v:Value} (h:VR E w vw x v):VR E' w' vw' (KO b x) v:=by
 have h1:=Gi k h;have gG:∀{b'},b'≠b->(vw'.set b .dead)[b']? =vw'[b']?:=fun e=>AVL (fun h=>e h.symm)
 cases x with
 |v t x=>exact h1
 |sl s r x=>exact h1
 |nil=>exact h1
 |I0 c j=>exact⟨by simpa using h1.1,h1.2⟩
 |QX s r x j=>exact h1
 |fn f LO=>exact⟨fun c hc=>by simpa using h1.1 c hc,h1.2⟩
 |sf f rows=>exact h1
 |AAc=>exact h1
 |undef=>trivial
 |ref c p=>
  cases p with
  |nil=>
   simp only[KO];by_cases e:c=b
   ·subst e
    simp only[VR,hb,hb']at h|-;refine⟨h.1,by simp[DT],⟨_,rfl⟩,?_⟩;grind[DL]
   grind[VR]
  |cons s p=>
   grind[KO,VR]
 |win c p off n=>
  cases p with
  |nil=>
   simp only[KO];by_cases e:c=b
   ·subst e
    simp only[VR,hb,hb']at h|-;obtain⟨h0,_,q,ys,a,len,cap,e1,e2,e3,e4⟩:=h;simp only[HZ,AON,ARQ]at e1;obtain⟨rfl,e1⟩:=e1;obtain rfl:=AU_ e1;refine⟨h0,by simp[DT],r,DE,a,len,cap,rfl,by omega,?_,e4⟩;grind[DL]
   grind[VR]
  |cons s p=>
   grind[KO,VR]
 |Ju c p i sz j=>
  cases p with
  |nil=>
   simp only[KO];by_cases e:c=b
   ·subst e
    simp only[VR,hb,hb']at h|-;obtain⟨h0,_,q,ys,bb,o,len,cap,e1,e2,e3,e4⟩:=h;simp only[HZ,AON,ARQ]at e1;obtain⟨rfl,e1⟩:=e1;obtain rfl:=AU_ e1;refine⟨h0,by simp[DT],r,DE,bb,o,len,cap,rfl,by omega,?_,e4⟩;grind[DL]
   grind[VR]
  |cons s p=>
   grind[KO,VR]
theorem AGp{E E':Env}{w w':World}{vw vw':List Bx}{b:Nat}(k:∀x v,VR E w vw x v->VR E' w' vw' (KO b x) v){x:XV}{v:Value}(h:XR E w vw x v):XR E' w' vw' (vu b x) v:=by
 cases x with
 |c x=>exact k x v h
 |agg l=>
  obtain⟨vs,rfl,Wy⟩:=h;exact⟨vs,rfl,Cg.MR _ k Wy⟩
 |NW l=>
  obtain⟨vs,rfl,Wy⟩:=h;refine⟨vs,rfl,Cg.MR _ (fun x v hx=> ?_) Wy⟩;cases x with
  |inl x=>exact k x v hx
  |inr q=>
   obtain⟨us,rfl,hus⟩:=hx;exact⟨us,rfl,Cg.MR _ k hus⟩
end Go.Fw
end
section
namespace Go.Fw
theorem sQ{w:World}{vw:List Bx}{E:Env}{bx:List Bx}{G:ABU}(h:DQ E w vw bx G)(hw:Fg bx vw){d:Nat}(hd:1<=d){q:Ty}{old:q.D}{j:Nat}{x:XV}{v:Value}(hv:XR E w vw x v){b_:q.D}{RX:List Bx}{d':Nat}
  (e:qI d q old j x bx=some (b_,RX,d')):1<=d'/\d'<=d/\ ∃E' F,Hi E w vw bx G E' RX F/\
   ((j=0/\x.plain=false/\Ow w E'.S (d'-1) q v.cells.toList b_ F)\/(∃t y,v.cells.toList=[v]/\Ow w E'.S (d'-1) t [v] y F/\EK q j old t y=some b_/\(x.plain=true->t.scalar=true/\isSlice v=false))):=by
 unfold qI at e;split at e
 ·rename_i l
  split at e
  case isFalse=>cases e
  rename_i hj;obtain⟨vs,rfl,Wy⟩:=hv;obtain⟨h1,h2,E',F,h3,h4⟩:=aR h hw hd Wy e;exact⟨h1,h2,E',F,h3,.inl ⟨hj,rfl,h4⟩⟩
 ·rename_i x
  split at e
  case h_2=>cases e
  rename_i t y0 hc;simp only[AOc,AOP,AUW]at e;obtain⟨⟨y,lr,d1⟩,e1,row,e2,rfl,rfl,rfl⟩:=e;dsimp only at e2;have Zh:VR E w vw x v:=hv;have hk:x.known=true:=by grind[AV.known,fX]
  obtain⟨h1,h2,E',F,h3,h4⟩:=cP h hw hd Zh e1;refine⟨h1,h2,E',F,h3,.inr ⟨t,y,by rw[(wP Zh hk).2],h4,e2,fun hp=> ?_⟩⟩;cases x with
  |v u z=>
   simp only[fX,AOP,AUW]at e1;obtain⟨z',e3,_⟩:=e1;obtain⟨rfl,_⟩:=Ij e3;obtain⟨hs,hr⟩:=Zh;refine⟨hs,?_⟩;cases u<;>simp_all[Ty.scalar,Rd]<;>rfl
  |_=>simp[XV.plain]at hp
 simp_all
theorem qo{f:AV->AV}{bx:List Bx}{b d:Nat}{r:Ty}{rows:List r.D}:(bx.set b (.sl d r rows)).map (Bx.map f)=(bx.map (Bx.map f)).set b (.sl d r rows):=by
 rw[List.map_set];rfl
theorem AE6{f:AV->AV}{bx:List Bx}{n d:Nat}{r:Ty}{rows:List r.D}(h:(bx.map (Bx.map f))[n]? =some (.sl d r rows)):bx[n]? =some (.sl d r rows):=by
 rw[AVI,AOP]at h;obtain⟨B,h1,h2⟩:=h;cases B with
 |mem cs=>simp[Bx.map]at h2
 |sl d' r' DE=>rw[h1];exact congrArg some h2
 |dead=>simp[Bx.map]at h2
theorem ur{E:Env}{σ:St}{a:Act}{w:World}(h:Rel E σ a w){b i sz j:Nat}{p:List Xw}{va v:Value}(hva:VR E w σ.bx (.Ju b p i sz j) va){x:XV}(hv:XR E w σ.bx x v)(h1c:∀u∈v.cells.toList,u.oneCell' =true)
  {σ':St} (e:je σ (.c (.Ju b p i sz j)) x=some σ'):
  ∃bb oo E',va= .pointer (some ⟨bb,oo,none⟩)/\w.there bb oo v.cells.toList.length/\Rel E' σ' a (w.setCells bb oo v.cells.toList)/\Sk [b] E σ.bx w E' σ'.bx (w.setCells bb oo v.cells.toList)/\σ'.tm.length=σ.tm.length:=by
 simp only[je]at e;split at e
 case h_2=>cases e
 rename_i d r rows hb;split at e
 case isFalse=>cases e
 rename_i zH;simp only[AOc]at e;obtain⟨⟨q,ys⟩,hg,e⟩:=e;dsimp only at e;split at e
 case isFalse=>cases e
 rename_i QW;simp only[AOc,AOP]at e;obtain⟨⟨b_,cI,d2⟩,e1,DE,e2,e3⟩:=e;dsimp only at e1 e2 e3;have st:=h.bx.st;simp only[VR,hb]at hva;obtain⟨_,hp,q1,ys1,bb,o,len,cap,g1,hi,g3,rfl⟩:=hva;rw[hg]at g1;simp only[AON,ARQ]at g1;obtain⟨rfl,g1⟩:=g1;obtain rfl:=AU_ g1;have Ha:=(AOS.1 hb).1;obtain⟨Gb,⟨hd1,ho⟩,hB⟩:=h.bx.take hb;have Kx:Fg (σ.bx.set b .dead) σ.bx:=fun n B hn=>by
  grind
 obtain⟨hd2,hd3,E1,Fx,k1,hrow⟩:=sQ hB Kx (by omega) hv e1;obtain⟨A,W,pG,ho2⟩:=Ki (d:=d2+p.length) (by omega) ho;have ZI:=k1.boxes.perm (G':=(Fx++A)++W++[]) (by
  grind)
 obtain⟨hle,hB3⟩:=ZI.share;simp only[AQO]at hB3
 generalize hE3:({ E1 with S:=fun c=>E1.S c\/c∈W,T:=fun c=>E1.T c\/c∈W }:Env)=E3 at hle hB3
 have q_:Le E E3:=k1.le.trans hle;have ho3:Ow w E3.S (d2+p.length) (.sl r) [E.IZ b] rows A:=En (fun c hc=>by
  subst hE3;exact hc.imp (k1.le.S c) id) (fun _ _=>rfl) (fun _ _=>rfl) ho2
 obtain⟨h',F1,F2,m1,m2,m3,m4⟩:=rh ho3 hp hg (by omega);rw[g3]at m1;cases m1;obtain⟨m,rfl⟩:∃m,d2=m+1:=⟨d2-1,by omega⟩;rw[show m+1+p.length-p.length=m+1 by omega]at m2 m4;simp only[Nat.add_sub_cancel]at hrow;obtain⟨b1,o1,arr,ty,fr,cs,G,R,n1,n2,n3,n4,n5,n6,n7,n8,n9⟩:=wX m2 hi;simp only[AON,Addr.mk.injEq,AVW]at n1;obtain⟨rfl,rfl⟩:=n1;subst QW;have hAp:A.Perm (G++(bb::R)++F2):=m3.trans (n8.append_right F2);obtain⟨Fs,hFs1,hFs2⟩:=hB3;have hbA:bb∈A:=hAp.mem_iff.2 (by simp);have dr: ¬E3.T bb:=hFs2.free bb (by simp[hbA]);have AAh: ¬E3.S bb:=fun hc=>dr (hFs2.st bb hc)
 have nd:(Fx++(G++(bb::R)++F2)).Nodup:=(AZL Fx hAp).nodup_iff.1 (ARZ.1 hFs2.nodup).2.1;have hnx:bb∉Fx:=fun hc=>(ARZ.1 nd).2.2 bb hc bb (by simp) rfl
 have hnG:bb∉G:=fun hc=>(ARZ.1 (ARZ.1 (ARZ.1 nd).2.1).1).2.2 bb hc bb (by simp) rfl
 have hnR:bb∉R:=(AZO.1 (ARZ.1 (ARZ.1 (ARZ.1 nd).2.1).1).2.1).1;have hn2:bb∉F2:=fun hc=>(ARZ.1 (ARZ.1 nd).2.1).2.2 bb (by simp) bb hc rfl
 have Xq:j+v.cells.toList.length<=q.n:=by
  rcases hrow with⟨rfl,_,ho4⟩|⟨t,y,hc1,ho4,Va,_⟩
  ·rw[YB ho4];omega
  ·rw[hc1]
   obtain⟨_,y0,hc0⟩:=Vw Va;grind[gQ,List.getElem?_eq_some_iff]
 have eZ:o+i*q.n+j+v.cells.toList.length<=arr.size:=by omega
 let w':=w.setCells bb (o+i*q.n+j) v.cells.toList
 have gG:∀c,c≠bb->w'.heap[c]? =w.heap[c]?:=fun c hc=>Dd _ _ _ _ _ hc
 have uk:∀c,E3.S c->w'.heap[c]? =w.heap[c]?:=fun c hc=>gG c (fun e=>AAh (e▸hc))
 have hb':=F6 v.cells.toList (o+i*q.n+j) w bb arr ty fr n2;have bt:∃eY G' D0,eY.length=q.n/\Bj w' bb (o+i*q.n) eY/\Ow w' E3.S m q eY b_ G'/\(Fx++G).Perm (G'++D0):=by
  rcases hrow with⟨rfl,_,ho4⟩|⟨t,y,hc1,ho4,Va,_⟩
  ·refine⟨v.cells.toList,Fx,G,YB ho4,PS n2 eZ,En (fun c hc=>hle.S c hc) (fun c hc=>gG c (fun e=>AAh (e▸hle.S c hc))) (fun c hc=>gG c (fun e=>hnx (e▸hc))) ho4,AZ8 _⟩
  ·obtain⟨_,y0,hc0⟩:=Vw Va
   obtain⟨u,K1,K2,z1,z2,z3,z4⟩:=gQ n7 hc0;have AdJ:bb∉K2:=fun hc=>hnG (z3.mem_iff.2 (by simp[hc]))
   obtain⟨F',f1,f2⟩:=z4 w' E3.S v y Fx b_ (fun _ hc=>hc) uk (fun c hc=>gG c (fun e=>AdJ (e▸hc)))
    (En (fun c hc=>hle.S c hc) (fun c hc=>gG c (fun e=>AAh (e▸hle.S c hc))) (fun c hc=>gG c (fun e=>hnx (e▸hc))) ho4) Va
   refine⟨cs.set j v,F',K1,by simp_all,fun x u' hx=> ?_,f2,?_⟩
   ·rw[List.getElem?_set]at hx
    split at hx
    ·rename_i ejx
     subst ejx;split at hx
     ·cases hx
      have:=PS (w:=w) (b:=bb) (o:=o+i*q.n+j) (vs:=v.cells.toList) n2 eZ 0 v (by simp_all);omega
     simp_all
    ·rename_i ejx
     have hold:=n6 x u' hx;rw[Ld n2]at hold;rw[Ld hb',Xj eZ,AOK (fun hh=>by grind),hold]
   grind
 obtain⟨eY,G',D0,c1,c2,c3,c4⟩:=bt;obtain⟨qA,f1,f2⟩:=n9 w' E3.S (Fc arr (o+i*q.n+j) v.cells.toList) eY b_ G' (fun _ hc=>hc) uk (fun c hc=>gG c (fun e=>hnR (e▸hc))) hb' (Fy _ _ _) (fun k hk=>by
  rw[Xj eZ,AOK (by omega)]) c1 c2 c3
 obtain⟨F',f3,f4⟩:=m4 w' E3.S (ys.set i b_) qA DE (fun _ hc=>hc) uk (fun c hc=>gG c (fun e=>hn2 (e▸hc))) f2 e2;have qS:(Fx++A).Perm (F'++D0):=by
  have p1:F'.Perm (G'++(bb::R)++F2):=f3.trans (f1.append_right F2);refine(AZL Fx hAp).trans (List.Perm.trans ?_ (p1.symm.append_right D0));grind
 have Ag3:bb∈F':=(f3.trans (f1.append_right F2)).mem_iff.2 (by simp);have hB4:DQ E3 w σ.bx cI F':=by
  have:DQ E3 w σ.bx cI (F'++D0):=DQ.perm (G:=Fx++A) ⟨Fs,hFs1,hFs2⟩ qS;exact this.drop
 have qi:cI.length=σ.bx.length:=by rw[k1.len];simp
 have AVp:cI[b]? =some .dead:=by
  obtain⟨B,hB⟩:∃B,cI[b]? =some B:=⟨_,AOM (by omega)⟩;rcases k1.within b B hB with e|e
  all_goals simp_all
 have hrl:DE.length=rows.length:=qk hg (by simp) e2;have kT:∀E0,Le E0 E3->Hi E0 w σ.bx σ.bx [] E3 cI (Fx++A):=fun E0 hl=>⟨hl,qi,fun n B hn=>by
  rcases k1.within n B hn with e|e
  all_goals grind,⟨Fs,hFs1,by simp_all⟩⟩
 have pD:∀n,E3.IZ n=E.IZ n:=fun n=>by rw[q_.IZ]
 have hww:∀c,c<w.heap.size->c∉Fx++A->w'.heap[c]? =w.heap[c]?:=fun c _ hc=>gG c (fun e=>hc (by simp_all))
 have base:fJ E w E3 w':=⟨q_.T,q_.S,q_.Tof,q_.Sof,fun c hc=>gG c (fun e=>dr (e▸q_.T c hc)),(CH _ _ _ _).os,(CH _ _ _ _).tape,(CH _ _ _ _).output,(CH _ _ _ _).size⟩;have finish:∀(f:AV->AV) (g:XV->XV),(∀E0,Le E0 E3->(∀c,E0.S c->E0.T c)-> ∀x v,VR E0 w σ.bx x v->VR E3 w' ((cI.map (Bx.map f)).set b (.sl (m+1+p.length) r DE)) (f x) v)->
   (∀x v,XR E w σ.bx x v->XR E3 w' ((cI.map (Bx.map f)).set b (.sl (m+1+p.length) r DE)) (g x) v)->
   Rel E3 { tm:=σ.tm.map g,bx:=(cI.map (Bx.map f)).set b (.sl (m+1+p.length) r DE) } a w':=by
  intro f g hf hg;refine⟨h.Od,Cg.MR _ hg h.tm,?_⟩;have hT:=hB4.AV9 (E':=E3) (w':=w') (vw':=(cI.map (Bx.map f)).set b (.sl (m+1+p.length) r DE)) f (hf E3 (Le.refl _) hFs2.st) (fun _ h=>h) (fun _ _=>rfl) (fun _ _=>rfl) (fun c hc _=>gG c (fun e=>by
    simp_all)) (fun F hF=>⟨hF.nodup,hF.free,fun c hc=>by rw[Dq];exact hF.lt c hc,hF.st,fun c hc=>by rw[Dq];exact hF.eT c hc⟩)
  refine DQ.put (F:=F') (G:=[]) (by simp_all) (by rw[AVI,AVp];rfl) ⟨by omega,?_⟩;simp_all
 have AXo:∀f:AV->AV,Sk [b] E σ.bx w E3 ((cI.map (Bx.map f)).set b (.sl (m+1+p.length) r DE)) w':=fun f=>⟨base,by simp[qi],fun n _=>⟨by rw[q_.Ia],pD n⟩,fun n hn=>by
  have si:n≠b:=fun e=>by simp_all
  have w6:=(AOS.1 hn).1;rw[AVL (fun e=>si e.symm),AVI];obtain⟨B,hB⟩:∃B,cI[n]? =some B:=⟨_,AOM (by omega)⟩;have hBd:B= .dead:=by
   rcases(kT E q_).within n B hB with e|e
   all_goals simp_all
  rw[hB,hBd];rfl,fun n B B' si hB Uf hnd=>by
  simp at si;have w6:=(AOS.1 hB).1;rw[AVL (fun e=>si e.symm),AVI]at Uf;obtain⟨B2,ZI⟩:∃B2,cI[n]? =some B2:=⟨_,AOM (by omega)⟩;rw[ZI]at Uf;have Uf:Bx.map f B2=B':=by simp_all
  have hBB:B2=B:=by
   rcases(kT E q_).within n B2 ZI with e|e
   ·subst e;exact absurd Uf.symm hnd
   simp_all
  subst hBB;refine⟨?_,fun c hc=>gG c (fun e=> ?_)⟩
  ·subst Uf
   cases B2 with
   |mem cs=>trivial
   |sl d r rows=>rfl
   |dead=>exact absurd rfl hnd
  ·have hF:Fs[n]? =some (Fs[n]'(by have:=(AOS.1 ZI).1;rw[hFs1.1];omega)):=AOM _
   have eS:y_ E3 w n B2 c:=by
    cases B2 with
    |mem cs=>simp only[y_]at hc|-;rw[q_.Ia];omega
    |sl d r rows=>grind[y_]
    |dead=>exact hc
   rcases gH (hFs1.2 n B2 _ ZI hF) eS with hs|hs
   ·simp_all
   ·exact(ARZ.1 hFs2.nodup).2.2 c (AVK.2 ⟨_,ASU hF,hs⟩) bb (by simp[hbA]) e⟩
 refine⟨bb,o+i*q.n+j,E3,rfl,Vj (k:=0) n2 eZ n3,?_,?_,?_⟩
 ·split at e3
  ·rename_i Aee
   have h0:∀E0,Le E0 E3->(∀c,E0.S c->E0.T c)->T8 E0 w σ.bx E3 w' (cI.set b (.sl (m+1+p.length) r DE)):=by
    intro E0 hl st0;refine cm b (kT E0 hl) st0 (by simp[qi]) (fun n d r rows hn _ hq=>by
      grind) (fun _ _=>rfl) (fun _ _=>rfl) rfl rfl hww (fun d0 r0 S7 hq=> ?_)
    rw[AVe (by omega)]at hq;simp only[AON,Bx.sl.injEq]at hq;obtain⟨rfl,rfl,hq⟩:=hq;obtain rfl:=AU_ hq;refine⟨d,rows,hb,fun p' hp' q' zs yO=> ?_⟩;rcases hrow with⟨_,hpf,_⟩|⟨t,y,hc1,ho4,Va,hsc⟩
    ·simp_all
    obtain⟨hs1,hs2⟩:=hsc Aee;have hk:=oZ hs1 hp hg hi Va e2 hp' q' zs yO;refine⟨hk.1,hk.2,fun hh hhe=> ?_⟩;rw[pD];rw[<-hl.IZ,pD]at hhe;refine um (fun Ad=> ?_) (Ye f4) hk.1 hhe;by_cases eA:Ad.block=bb/\Ad.spot=none/\Ad.off=o+i*q.n+j
    ·right
     obtain⟨ab,ao,asp⟩:=Ad;simp only at eA;rw[eA.1,eA.2.1,eA.2.2];refine⟨v,?_,hs2⟩;have:=PS (w:=w) (b:=bb) (o:=o+i*q.n+j) (vs:=v.cells.toList) n2 eZ 0 v (by simp_all);omega
    grind[World.cell?_setCells_out,List.length_cons,List.length_nil]
   have:=finish id id (fun E0 hl st0 x v hx=>by rw[ba];grind[Gi]) (fun x v hx=>by rw[ba];grind[P5]);grind[ba,List.map_id]
  ·have h0:∀E0,Le E0 E3->(∀c,E0.S c->E0.T c)-> ∀x v,VR E0 w σ.bx x v->VR E3 w' ((cI.map (Bx.map (KO b))).set b (.sl (m+1+p.length) r DE)) (KO b x) v:=by
    intro E0 hl st0 x v hx;have keep:T8 E0 w σ.bx E3 w' (((cI.map (Bx.map (KO b))).set b (.sl (m+1+p.length) r DE)).set b .dead):=by
     refine cm b (kT E0 hl) st0 (by simp[qi]) (fun n d r rows hn _ hq=>by
      grind[List.getElem?_set_ne,AE6]) (fun _ _=>rfl) (fun _ _=>rfl) rfl rfl hww (fun d0 r0 S7 hq=> ?_)
     simp_all
    exact AGv keep hb (by rw[AVe (by simp_all)]) hrl (by rw[hl.IZ]) hx
   have:=finish (KO b) (vu b) h0 (fun x v hx=>AGp (h0 E q_ st) hx);grind[St.ABx,oX,qo]
 ·rw[<-e3]
  split
  all_goals grind[id,ba,St.ABx,oX,qo]
 grind[St.ABx]
end Go.Fw
end
section
namespace Go.Fw
theorem gR{w w':World}{B B':Nat->Prop}:∀{r:Ty} {cs:List Value} {x:r.D},r.flat=true->Rd w B r cs x->Rd w' B' r cs x
 | .cons c r,cs,x,h,hr=>by
  simp only[Ty.flat,AOw]at h;simp only[Rd]at hr|-;obtain⟨v,l,rfl,h1,h2⟩:=hr;exact⟨v,l,rfl,gR h.1 h1,gR h.2 h2⟩
 | .unit,_,_,_,hr=>by grind[Rd]
 | .int k,_,_,_,hr=>by grind[Rd]
 | .bool,_,_,_,hr=>by grind[Rd]
 | .str,_,_,_,hr=>by grind[Rd]
 | .sl q,_,_,h,_=>by simp[Ty.flat]at h
theorem fl{w:World}{S:Nat->Prop}{d:Nat}:∀{r:Ty} {cs:List Value} {y:r.D} {F:ABU},r.flat=true->Ow w S d r cs y F->F=[]
 | .int k,_,_,_,_,h=>by grind[Ow]
 | .bool,_,_,_,_,h=>by grind[Ow]
 | .str,_,_,_,_,h=>by grind[Ow]
 | .unit,_,_,_,_,h=>by grind[Ow]
 | .cons c r,_,_,_,hf,h=>by
  simp only[Ty.flat,AOw]at hf;simp only[Ow]at h;obtain⟨v,l,F1,F2,_,rfl,h1,h2⟩:=h;rw[fl hf.1 h1,fl hf.2 h2];rfl
 | .sl q,_,_,_,hf,_=>by simp[Ty.flat]at hf
theorem yw{w w':World}{S S':Nat->Prop}{d d':Nat}{r:Ty}(hr:r.flat=true){cs:List Value}{y:r.D}{F:ABU}(h:Ow w S d r cs y F):F=[]/\cs.length=r.n/\Ow w' S' d' r cs y []:=
 ⟨fl hr h,YB h,lU hr (gR (B':=fun _=>False) hr (Ye h))⟩
theorem kc:∀{r:Ty} {j:Nat} {x:r.D} {t:Ty} {y:t.D},r.flat=true->Ba r j x=some ⟨t,y⟩->t.flat=true
 | .cons c r,0,x,t,y,h,e=>by
  simp only[Ty.flat,AOw]at h;simp only[Ba,AON,ARQ]at e;simp_all
 | .cons c r,j+1,x,t,y,h,e=>by
  simp only[Ty.flat,AOw]at h;simp only[Ba]at e;exact kc h.2 e
 | .unit,_,_,_,_,_,e=>by simp[Ba]at e
 | .int k,0,x,t,y,_,e=>by simp only[Ba,AON,ARQ]at e;simp_all
 | .bool,0,x,t,y,_,e=>by simp only[Ba,AON,ARQ]at e;simp_all
 | .str,0,x,t,y,_,e=>by simp only[Ba,AON,ARQ]at e;simp_all
 | .sl _,_,_,_,_,h,_=>by simp[Ty.flat]at h
 | .int _,_+1,_,_,_,_,e=>by simp[Ba]at e
 | .bool,_+1,_,_,_,_,e=>by simp[Ba]at e
 | .str,_+1,_,_,_,_,e=>by simp[Ba]at e
theorem ADq{r:Ty}(hr:r.flat=true){rows:List r.D}:∀{p:List Xw},DT r rows p->p=[]
 |[],_=>rfl
 |s::p,h=>by
  simp only[DT]at h;obtain⟨_,_,h⟩:=h;exfalso;cases hc:Ba r s.j (rowAt r rows s.i)with
  |none=>simp_all
  |some tx=>
   obtain⟨t,x⟩:=tx;have hf:=kc hr hc;grind[Ty.flat]
theorem flatten_nil{l:List ABU}(h:∀x∈l,x=[]):l.flatten=[]:=by
 simp_all;omega
theorem ADY{E:Env}{σ:St}{a:Act}{w:World}(h:Rel E σ a w){b d off n:Nat}{r:Ty}{rows:List r.D}(hb:σ.bx[b]? =some (.sl d r rows))(hr:r.flat=true)(hgd:r.wS=true)(hk:0<r.n)(hl:off+n<=rows.length)(hn:0<n):
  ∃bb o cap,E.IZ b= .slice (some ⟨bb,o,none⟩) rows.length cap/\rows.length<=cap/\w.there bb (o+off*r.n) (n*r.n)/\
   Rel E { σ with bx:=σ.bx.set b (.sl d r ((rows.take off++List.replicate n r.z)++rows.drop (off+n))) } a (w.setCells bb (o+off*r.n) (List.replicate n (E8 r)).flatten)/\
   Sk [b] E σ.bx w E (σ.bx.set b (.sl d r ((rows.take off++List.replicate n r.z)++rows.drop (off+n)))) (w.setCells bb (o+off*r.n) (List.replicate n (E8 r)).flatten):=by
 have st:=h.bx.st;obtain⟨F,⟨hd,ho⟩,hB⟩:=h.bx.take hb;simp only[AQO]at hB;have Ha:=(AOS.1 hb).1;obtain⟨d',rfl⟩:∃m,d=m+1:=⟨d-1,by omega⟩;simp only[Ow]at ho;obtain⟨ad,cap,hh,AAX,ho⟩:=ho;simp only[ATj,AVW]at hh;rcases ho with⟨rfl,_⟩|⟨bb,o,arr,ty,fr,Fs,rfl,ha,QW,hu,rfl,hFl,dZ⟩
 ·omega
 have hFn:List.flatten Fs=[]:=flatten_nil fun x hx=>by
  obtain⟨i,hi,hxi⟩:=AVO hx;obtain⟨cs,_,_,h3⟩:=dZ i (rows[i]'(by omega)) x (AOM _) (by grind);exact(yw (w':=w) (S':=E.S) (d':=0) hr h3).1
 rw[hFn]at hB;have hzl:(E8 r).length=r.n:=HM r;have hvl:((List.replicate n (E8 r)).flatten).length=n*r.n:=by simp_all
 have hm1:(off+n)*r.n<=cap*r.n:=ASH _ (by omega);have hm2:(off+n)*r.n=off*r.n+n*r.n:=AVn ..;have eZ:o+off*r.n+((List.replicate n (E8 r)).flatten).length<=arr.size:=by omega
 generalize Wy:(List.replicate n (E8 r)).flatten=vs at hvl eZ
 refine⟨bb,o,cap,hh,AAX,Vj ha (by omega) hu,?_⟩;have dr: ¬E.T bb:=hB.AG4 _ (by simp);have hB0:=hB;have gG:∀c,c≠bb->(w.setCells bb (o+off*r.n) vs).heap[c]? =w.heap[c]?:=fun c hc=>Dd _ _ _ _ _ hc
 have hw:∀c,c<w.heap.size->c∉[bb]->(w.setCells bb (o+off*r.n) vs).heap[c]? =w.heap[c]?:=fun c _ hc=>gG c (by simp_all)
 have kT:Hi E w σ.bx σ.bx [] E (σ.bx.set b .dead) [bb]:=⟨Le.refl _,by simp,fun n B hn=>by
  grind,by simp_all⟩
 generalize AQn:(rows.take off++List.replicate n r.z)++rows.drop (off+n)=DE
 have AYE:DE.length=rows.length:=by
  grind
 have keep:T8 E w σ.bx E (w.setCells bb (o+off*r.n) vs) (σ.bx.set b (.sl (d'+1) r DE)):=cm b kT st (by simp) (fun n d r rows hn _ hq=>by
   grind) (fun _ _=>rfl) (fun _ _=>rfl) rfl rfl hw (fun d1 r1 AO4 hq=>by
   rw[AVe Ha]at hq;simp only[AON,Bx.sl.injEq]at hq;obtain⟨rfl,rfl,hq⟩:=hq;obtain rfl:=AU_ hq;refine⟨d'+1,rows,hb,fun p hp q ys hg=> ?_⟩;obtain rfl:=ADq hr hp;simp only[HZ,AON,ARQ]at hg;obtain⟨rfl,hg⟩:=hg;obtain rfl:=AU_ hg;exact⟨by simp[DT],⟨DE,by rfl,AYE⟩,fun h' hh' =>hh'⟩)
 refine⟨⟨h.Od,h.tm.imp fun _ _ hq=>P5 keep hq,?_⟩,⟨⟨fun _ h=>h,fun _ h=>h,fun _ h=> .inl h,fun _ h=> .inl h,fun c hc=>gG c (fun e=>dr (e▸hc)),(CH _ _ _ _).os,(CH _ _ _ _).tape,(CH _ _ _ _).output,(CH _ _ _ _).size⟩,by simp,fun _ _=>⟨rfl,rfl⟩,fun n hn=>by
  grind,fun n B B' si hB Uf hnd=>by
  simp at si;rw[AVL (fun e=>si e.symm),hB]at Uf;cases Uf;refine⟨WS.refl hnd,fun c hc=>gG c (fun e=> ?_)⟩;obtain⟨Fs,⟨f1,f2⟩,f3⟩:=hB0;have ZI:(σ.bx.set b .dead)[n]? =some B:=by grind
  have hF:Fs[n]? =some (Fs[n]'(by grind)):=AOM _;rcases gH (f2 n B _ ZI hF) hc with hs|hs
  ·simp_all
  ·exact(ARZ.1 f3.nodup).2.2 c (AVK.2 ⟨_,ASU hF,hs⟩) bb (by simp) e⟩⟩
 have hT:=hB.turn (E':=E) (w':=w.setCells bb (o+off*r.n) vs) (vw':=σ.bx.set b (.sl (d'+1) r DE)) (fun x v hq=>Gi keep hq) (fun _ h=>h) (fun _ _=>rfl) (fun _ _=>rfl) (fun c hc _=>gG c (fun e=>by
   simp_all)) (fun F hF=>⟨hF.nodup,hF.free,fun c hc=>by rw[Dq];exact hF.lt c hc,hF.st,fun c hc=>by rw[Dq];exact hF.eT c hc⟩)
 have AGI:sd E (w.setCells bb (o+off*r.n) vs) (σ.bx.set b (.sl (d'+1) r DE)) b (.sl (d'+1) r DE) [bb]:=by
  refine⟨hd,?_⟩;simp only[Ow];refine⟨_,cap,by simp_all,by omega,.inr ⟨bb,o,Fc arr (o+off*r.n) vs,ty,fr,List.replicate DE.length [],rfl,F6 _ _ _ _ _ _ _ ha,by rw[Fy];omega,by rw[Fy];omega,by simp,by simp,fun i y G hy hG=> ?_⟩⟩;have hG':G=[]:=AV1 (ASU hG);subst hG';have hil:i<rows.length:=by grind
  by_cases VP:off<=i/\i<off+n
  ·have hyz:y=r.z:=by
    grind
   subst hyz;refine⟨E8 r,hzl,fun j v hj=> ?_,gZ hgd⟩;have zA:j<r.n:=by grind
   have e1:(i-off)*r.n=i*r.n-off*r.n:=AYi ..;have e2:off*r.n<=i*r.n:=ASH _ VP.1;have e3:(i-off+1)*r.n<=n*r.n:=ASH _ (by omega);rw[AVn,Nat.one_mul]at e3;have:=PS ha eZ ((i-off)*r.n+j) v (by
    grind[OX,Nat.mul_comm,Nat.mul_add_mod,Nat.mod_eq_of_lt])
   grind
  ·have hyo:rows[i]? =some y:=by
    rw[<-AQn]at hy;by_cases h1:i<off
    ·grind
    grind[List.getElem?_append_right]
   obtain⟨cs,c1,c2,c3⟩:=dZ i y (Fs[i]'(by omega)) hyo (AOM _);obtain⟨_,c4,c5⟩:=yw (w':=w.setCells bb (o+off*r.n) vs) (S':=E.S) (d':=d') hr c3;refine⟨cs,c4,U8 c2 ha eZ (.inr ?_),c5⟩;by_cases h1:i<off
   ·have:(i+1)*r.n<=off*r.n:=ASH _ h1
    grind
   grind
 have:=DQ.put (b:=b) (B:= .sl (d'+1) r DE) (F:=[bb]) (G:=[]) (by simpa using hT) (by simp_all) AGI;simp_all
section
variable{Y:Type} {P:Program} {T:KS} (hT:FE P T) {o:Oper} {E:Env} {σ:St} {a:Act} {w:World} {k:K Y} {y:Y}
include hT
theorem AAw(h:Rel E σ a w){c:Call}{x:XV}(ho:o.op= .call c)(hc:c.callee= .builtin .clear)(I4:c.args.toList.map σ.ev=[x])(e:nN T c.argTypes σ x k=some y)
  (Acs:∀b p off n,x= .c (.win b p off n)->Ky (fun _=>none) σ o.op=[b]):∃v w' E' xv σ',((execOp a.eval o).run P w= .ok (.value v) w'\/((execOp a.eval o).run P w= .ok .skip w'/\v=undef))/\Rel E' σ' a w'/\XR E' w' σ'.bx xv v/\
   Sk (Ky (fun _=>none) σ o.op) E σ.bx w E' σ'.bx w'/\σ'.tm.length=σ.tm.length/\k xv σ' =some y:=by
 obtain⟨o1,hargs',rfl⟩:=Yc I4;have eL:=h.ev o1;unfold nN at e;split at e
 case h_2=>cases e
 rename_i t b off n ht hx;rw[hx]at eL;rw[Acs b [] off n hx];split at e
 case h_2=>cases e
 rename_i d r rows hb;split at e
 case isFalse=>cases e
 rename_i Vb;rw[AOw]at Vb;obtain⟨Vb,hr⟩:=Vb;rw[AOw,APo]at hr;obtain⟨hr,hk⟩:=hr;obtain⟨el,ti,hu,Vz,hs,hby,hrow⟩:=LJ hT Vb;obtain⟨i,z,i1,i2,i3,i4,i5,hg⟩:=Xr hT Vz hrow;have aP:VR E w σ.bx (.win b [] off n) (a.eval o1):=eL;simp only[VR,hb]at aP;obtain⟨_,_,q,ys,ad,len,cap,hgp,hl,hh,hv⟩:=aP;simp only[HZ,AON,ARQ]at hgp;obtain⟨rfl,hgp⟩:=hgp;obtain rfl:=AU_ hgp;simp only[JU,AON]at hh;by_cases hn:n=0
 ·subst hn
  have xM:(rows.take off++List.replicate 0 r.z)++rows.drop (off+0)=rows:=by simp
  rw[xM]at e;have Va:σ.bx.set b (.sl d r rows)=σ.bx:=by
   apply AYd;grind
  rw[Va]at e;refine⟨.tuple #[],w,E,.c .undef,σ,.inl ?_,h,trivial,Sk.refl _ _ _ _,rfl,e⟩;have hz:∃a' c',a.eval o1= .slice a' 0 c':=⟨_,_,by rw[hv];rfl⟩;obtain⟨a',c',hz⟩:=hz;simp only[execOp,ho,resolve,hc,hargs',invoke,builtin,Sem.run_bind,Sem.run_pure,Result.andThen_ok,List.map_toArray,AW2,AZm,Builtin.clear_,ht,hz];cases a'<;>simp[Bh hu]
 ·obtain⟨bb,oo,cap',g1,g2,g3,g4,g5⟩:=ADY h (d:=d) hb hr hg hk hl (by omega)
  rw[g1]at hh;simp only[Value.slice.injEq]at hh;obtain⟨rfl,rfl,rfl⟩:=hh;have Zh:a.eval o1= .slice (some ⟨bb,oo+off*r.n,none⟩) n (cap'-off):=by
   rw[hv];unfold WK;rw[AOK (by omega)];simp[Addr.add]
  refine⟨.tuple #[],_,E,.c .undef,_,.inl ?_,g4,trivial,g5,rfl,e⟩;have hz:(Builtin.zeroCells z.cells n).toList=(List.replicate n (E8 r)).flatten:=by
   grind[Builtin.zeroCells,E8,XW,HM]
  have h1:∀v∈(List.replicate n (E8 r)).flatten,v.oneCell' =true:=fun v hv=>by
   obtain⟨l,hl1,vq⟩:=AVK.1 hv;rw[AV1 hl1]at vq;exact mQ (w:=w) (S:=E.S) (d:=0) (gZ hg) v vq
  have hvl:((List.replicate n (E8 r)).flatten).length=n*r.n:=by rw[He,HM]
  have sk:=run_storeCells_cells (P:=P) bb (oo+off*r.n) (List.replicate n (E8 r)).flatten 0 w (fun j hj=>by simpa using(g3 j (by omega)).1) (fun j hj=>by simpa using(g3 j (by omega)).2) h1;rw[AW4]at sk;obtain⟨n',rfl⟩:∃n',n=n'+1:=⟨n-1,by omega⟩;simp only[execOp,ho,resolve,hc,hargs',invoke,builtin,Sem.run_bind,Sem.run_pure,Result.andThen_ok,List.map_toArray,AW2,AZm,Builtin.clear_,ht,Zh];simp[Bh hu,zeroValue,typeInfo,i1,i4,hz,sk]
end
end Go.Fw
end
section
namespace Go.Fw
theorem sJ{E:Env}{w:World}{vw:List Bx}:∀{l:List XV} {bs:ABU} {vs:List Value},xc l=some bs->Cg (XR E w vw) l vs->(∀b∈bs,b<vw.length)/\vs=bs.map fun b=>Value.pointer (some ⟨E.Ia b,0,none⟩)
 |[],bs,vs,e,h=>by
  simp only[xc,AON]at e;subst e;cases vs with
  |nil=>simp_all
  |cons _ _=>exact h.elim
 |x::l,bs,vs,e,h=>by
  unfold xc at e;split at e
  ·simp_all
  ·rename_i b l' heq
   cases heq;simp only[AOP]at e;obtain⟨r,e1,rfl⟩:=e;cases vs with
   |nil=>exact h.elim
   |cons v vs=>
    obtain⟨h1,h2⟩:=h;obtain⟨k1,k2⟩:=sJ e1 h2;obtain⟨h3,h4⟩:b<vw.length/\v= .pointer (some ⟨E.Ia b,0,none⟩):=h1;simp_all
  simp_all
theorem evs{E:Env}{σ:St}{a:Act}{w:World}(h:Rel E σ a w):∀l:List Operand,Cg (XR E w σ.bx) (l.map σ.ev) (l.map a.eval)
 |[]=>trivial
 |x::l=>⟨h.ev x,evs h l⟩
theorem ABt{E:Env}{σ:St}{a:Act}{w:World}(h:Rel E σ a w):∀o:Option Operand,OR E w σ.bx (o.map σ.ev) (o.map a.eval)
 |none=>trivial
 |some x=>h.ev x
theorem xi{w:World}{S:Nat->Prop}:∀{p:List Xw} {d:Nat} {r:Ty} {h:Value} {rows:List r.D} {F:ABU} {q:Ty} {ys:List q.D} {v:Value},Ow w S d (.sl r) [h] rows F->DT r rows p->
  HZ r rows p=some ⟨q,ys⟩->d<=p.length->JU w h p=some v->Rd w S (.sl q) [v] ys
 |p,0,r,h,rows,F,q,ys,v,ho,hp,hg,_,hv=>by
  simp only[Ow]at ho;obtain⟨h',k,hr⟩:=qC ho.1 hp hg;simp_all
 |[],d+1,r,h,rows,F,q,ys,v,ho,hp,hg,hd,hv=>by simp_all
 |s::p,d+1,r,h,rows,F,q,ys,v,ho,hp,hg,hd,hv=>by
  simp only[DT]at hp;obtain⟨hi,QW,hp⟩:=hp;simp only[HZ]at hg;obtain⟨a,len,cap,rfl⟩:∃a len cap,h= .slice a len cap:=by
   have:=ho;simp only[Ow]at this;grind
  split at hg
  case h_2=>cases hg
  rename_i q' x' jl;rw[jl]at hp;obtain⟨b,o,arr,ty,fr,cs,G,R,rfl,hb,hu,hbd,c1,c2,c3,qS,hback⟩:=wX ho hi;obtain⟨u,A1,A2,k1,k2,k3,k4⟩:=gQ c3 jl;simp only[JU]at hv;rw[QW,c2 _ _ k1]at hv;exact xi k2 hp hg (by simp_all) hv
theorem AA3{E:Env}{σ:St}{a:Act}{w:World}(h:Rel E σ a w){b i sz j:Nat}{p:List Xw}{va v:Value}(hva:VR E w σ.bx (.Ju b p i sz j) va){x:XV}(hv:XR E w σ.bx x v)(h1c:∀u∈v.cells.toList,u.oneCell' =true)
  {σ':St} (e:MS σ (.c (.Ju b p i sz j)) x=some σ'):
  ∃bb oo E',va= .pointer (some ⟨bb,oo,none⟩)/\w.there bb oo v.cells.toList.length/\Rel E' σ' a (w.setCells bb oo v.cells.toList)/\Sk [b] E σ.bx w E' σ'.bx (w.setCells bb oo v.cells.toList)/\σ'.tm.length=σ.tm.length:=by
 unfold MS bW at e;split at e
 ·rename_i b0 _ _ _ _ b' s p' off n heq
  cases heq;split at e
  case isFalse=>cases e
  rename_i hbb;subst hbb;split at e
  case h_2=>cases e
  rename_i d r rows hb;simp only[AOc,AOP]at e;obtain⟨q,⟨⟨q0,ys⟩,hg,rfl⟩,e⟩:=e;dsimp only at e;have Ha:=(AOS.1 hb).1;obtain⟨F,⟨hd1,ho⟩,hB⟩:=h.bx.take hb;obtain⟨A,W,pF,ho2⟩:=Ki (d:=min d (p'.length+1)) (by omega) ho;have ZI:=hB.perm (G':=A++W++[]) (by simp_all);obtain⟨hle,hB3⟩:=ZI.share
  generalize hE1:({ E with S:=fun c=>E.S c\/c∈W,T:=fun c=>E.T c\/c∈W }:Env)=E1 at hle hB3
  have ho3:Ow w E1.S (min d (p'.length+1)) (.sl r) [E1.IZ b'] rows A:=by
   rw[hle.IZ];grind
  have hB4:=hB3.put (b:=b') (B:= .sl (min d (p'.length+1)) r rows) (by simp_all) ⟨by omega,ho3⟩;rw[AZu]at hB4;have hk:T8 E w σ.bx E1 w (σ.bx.set b' (.sl (min d (p'.length+1)) r rows)):=by
   refine⟨by simp,fun _ _=>by rw[hle.Ia],hle.T,hle.S,h.bx.st,fun _ _=>rfl,fun c d' r' DE hc e=> ?_⟩;by_cases hcb:b' =c
   ·subst hcb
    rw[AVe Ha]at e;simp only[AON,Bx.sl.injEq]at e;obtain⟨rfl,rfl,e⟩:=e;obtain rfl:=AU_ e;exact⟨d,rows,hb,fun p hp q ys hg=>⟨hp,⟨ys,hg,rfl⟩,fun h' hh=>by rw[hle.IZ];omega⟩⟩
   ·rw[AVL hcb]at e
    exact⟨d',DE,e,fun p hp q ys hg=>⟨hp,⟨ys,hg,rfl⟩,fun h' hh=>by rw[hle.IZ];omega⟩⟩
  have eL:VR E w σ.bx (.win b' (s::p') off n) v:=hv;have aP:XR E1 w (σ.bx.set b' (.sl (min d (p'.length+1)) r rows)) (.c (.sl true q0 ((ys.drop off).take n))) v:=by
   simp only[VR,hb]at eL;obtain⟨_,hp,q1,ys1,a1,len,cap,g1,g2,g3,rfl⟩:=eL;rw[hg]at g1;simp only[AON,ARQ]at g1;obtain⟨rfl,g1⟩:=g1;obtain rfl:=AU_ g1;have:=xi ho3 hp hg (by grind) (by rw[hle.IZ];omega);exact zS this g2
  have hr:Rel E1 { σ with bx:=σ.bx.set b' (.sl (min d (p'.length+1)) r rows) } a w:=
   ⟨h.Od,h.tm.imp fun _ _ hx=>P5 hk hx,hB4.turn (E':=E1) (w':=w) (fun _ _ hv=>Gi ⟨by simp,fun _ _=>rfl,fun _ h=>h,fun _ h=>h,hB3.st,fun _ _=>rfl,fun c d' r' DE hc e=>by
    grind⟩ hv) (fun _ h=>h) (fun _ _=>rfl) (fun _ _=>rfl) (fun _ _ _=>rfl) fun F hF=>hF⟩
  obtain⟨bb,oo,E',q1,q2,q3,q4,q5⟩:=ur hr (Gi hk hva) aP h1c e;refine⟨bb,oo,E',q1,q2,q3,⟨(hle.base w).trans q4.base,by simpa using q4.len,fun c hc=> ?_,fun c hc=> ?_,fun c B B' hct hB Uf hd=> ?_⟩,q5⟩
  ·have:=q4.ids c (by simp_all)
   exact⟨this.1.trans (by rw[hle.Ia]),this.2.trans (by rw[hle.IZ])⟩
  ·refine q4.dead c ?_
   grind
  ·have hcb:b'≠c:=fun e=>hct (by simp[e])
   obtain⟨f1,f2⟩:=q4.frame c B B' hct (by simp_all) Uf hd;refine⟨f1,fun c' eS=>f2 c' ?_⟩;cases B with
   |mem cs=>exact eS.trans (by rw[hle.Ia])
   |sl d0 r0 S7=>simp only[y_]at eS|-;rw[hle.IZ];omega
   |dead=>exact eS
 grind[ur]
def rA:Op->Bool
 | .call { callee:= .value _,.. }=>true
 |_=>false
section
variable{Y:Type} {P:Program} {T:KS} (hT:FE P T) {o:Oper} {E:Env} {σ:St} {a:Act} {w:World} {k:K Y} {y:Y}
include hT
theorem AAx(h:Rel E σ a w){t:TypeId}{oa ox:Operand}(ho:o.op= .store t oa ox){ti:TI}(Vz:T.get t=some ti)
  (hc:(σ.ev ox).cells.length=ti.size/\ti.size≠0/\(σ.ev ox).cells.all AV.known=true) {σ':St} (hs:MS σ (σ.ev oa) (σ.ev ox)=some σ') (e:k (.c .undef) σ' =some y):Ma P o E σ a w k y:=by
 obtain⟨c1,c2,c3⟩:=hc;have ew:(σ.ev ox).cells≠[]:=fun hh=>by simp_all
 obtain⟨Wy,h1c⟩:=qp (h.ev ox) c3 ew;have hlen:(a.eval ox).cells.toList.length=ti.size:=by rw[<-Cg.len Wy];omega
 have hi:(P.info? t).map (·.size)=some (a.eval ox).cells.toList.length:=by grind[FE.size]
 have hva:=h.ev oa;have fin:∀{bb oo:Nat} {E':Env},a.eval oa= .pointer (some ⟨bb,oo,none⟩)->w.there bb oo (a.eval ox).cells.toList.length->Rel E' σ' a (w.setCells bb oo (a.eval ox).cells.toList)->
   Sk (Ky (fun _=>none) σ o.op) E σ.bx w E' σ'.bx (w.setCells bb oo (a.eval ox).cells.toList)->σ'.tm.length=σ.tm.length->Ma P o E σ a w k y:=by
  intro bb oo E' e1 e2 e3 e4 e5;have hr:=pP (P:=P) e2 hi h1c;refine⟨undef,_,E',.c .undef,σ',.inr ⟨?_,rfl⟩,e3,trivial,e4,e5,e⟩;grind[execOp,Sem.run_bind,Result.andThen_ok,Sem.run_pure]
 generalize hxa:σ.ev oa=xa at hs hva
 cases xa with
 |agg l=>simp[MS,bW,je]at hs
 |NW l=>simp[MS,bW,je]at hs
 |c x=>
  cases x with
  |I0 b j=>
   simp only[MS,bW,AOv,je]at hs;split at hs
   case h_2=>cases hs
   rename_i cs hb;simp only[AOP]at hs;obtain⟨eY,hs,rfl⟩:=hs;have Aav:b<σ.bx.length/\a.eval oa= .pointer (some ⟨E.Ia b,j,none⟩):=hva;obtain⟨q1,q2,q3⟩:=ADh h hb Wy ew hs;exact fin Aav.2 q1 q2 (by grind[Ky]) rfl
  |Ju b p i sz j=>
   obtain⟨bb,oo,E',q1,q2,q3,q4,q5⟩:=AA3 h hva (h.ev ox) h1c hs;grind[Ky]
  |_=>simp[MS,bW,je]at hs
omit hT in
theorem yf(h:Rel E σ a w){x:Operand}(ho:o.op= .assign x)(e:dD σ (σ.ev x) k=some y):Ma P o E σ a w k y:=by
 have hr:(execOp a.eval o).run P w= .ok (.value (a.eval x)) w:=by simp only[execOp,ho,Sem.run_pure]
 have hv:=h.ev x;unfold dD at e;split at e
 ·rename_i b off n hx
  rw[hx]at hv;simp only[AOc]at e;obtain⟨⟨r,rows,bx,d⟩,e1,e⟩:=e;dsimp only at e;have Zh:VR E w σ.bx (.win b [] off n) (a.eval x):=hv;obtain⟨hd,F1,F2,k1,ho1⟩:=iI h.bx (Fg.refl _) Zh e1;obtain⟨Fs0,hB1,ZI⟩:=k1.boxes;simp only[AQO]at ZI;have nd:=(ARZ.1 (ARZ.1 ZI.nodup).2.1).1;obtain⟨r1,r2,r3⟩:=Uh h k1 (w':=w) hd ho1 (fun c hc=> .inl (ARh.2 (.inl hc))) nd (fun c hc=>ZI.lt c (by simp[hc])) (fun _ _ _=>rfl) ⟨rfl,rfl,rfl,ATX _⟩;exact⟨_,_,_,_,_,.inl hr,r1,r3,r2.any,rfl,e⟩
 ·exact Ma.same h hr hv e
theorem ACg{Γ:Nat->Option Qn}(h:Rel E σ a w)(e:YC T Γ o σ k=some y)(uG:rA o.op=false):Ma P o E σ a w k y:=by
 have same:∀{v:Value} {x:XV},(execOp a.eval o).run P w= .ok (.value v) w->XR E w σ.bx x v->k x σ=some y->Ma P o E σ a w k y:=fun h1 h2 h3=>Ma.same h h1 h2 h3
 obtain⟨Fs,hB,hS⟩:=h.bx;have st:=hS.st;unfold YC at e;split at e
 ·rename_i x ho
  exact same (v:=a.eval x) (by grind[execOp,Sem.run_pure]) (h.ev x) e
 ·grind[yf]
 ·rename_i c xa xb ho
  split at e
  case h_2=>cases e
  rename_i p hp;have hc:=h.ev c;rw[hp]at hc;have eS:=Tf (E:=E) (w:=w) (vw:=σ.bx) hc;refine same (v:=if p then a.eval xa else a.eval xb) (x:=if p then σ.ev xa else σ.ev xb) (by simp[execOp,ho,eS,asBool]) (by cases p<;>simp[h.ev]) ?_
  grind[AEa]
 ·grind[AAf]
 ·grind[AGN]
 ·grind[zo]
 ·grind[o7]
 ·rename_i t x ho
  split at e
  case h_2=>cases e
  rename_i z hz;obtain⟨u,h1,h2⟩:=xz hT hB st hz (h.ev x);grind[execOp,Sem.run_bind,Result.andThen_ok,Sem.run_pure]
 ·grind[AAx]
 ·rename_i x ho
  have hx:=h.ev x;split at e
  ·rename_i b j hp
   rw[hp]at hx;have hx':b<σ.bx.length/\a.eval x= .pointer (some ⟨E.Ia b,j,none⟩):=hx;grind[execOp,Sem.run_pure]
  ·rename_i b p i sz j hp
   rw[hp]at hx;have hpt:eD (a.eval x)=true:=hx.1;grind[eD,execOp,Sem.run_pure]
  ·rename_i s r z j hp
   rw[hp]at hx;obtain⟨bb,oo,cs,hv,hrest⟩:=hx;exact same (v:=a.eval x) (x:= .c (.QX s r z j)) (by grind[execOp,Sem.run_pure]) ⟨bb,oo,cs,hv,hrest⟩ e
  ·rename_i f LO hp
   rw[hp]at hx;have hx':(∀b∈LO,b<σ.bx.length)/\a.eval x= .func (.func f) #[] (LO.map fun b=>Value.pointer (some ⟨E.Ia b,0,none⟩)).toArray:=hx;grind[execOp,Sem.run_pure]
  simp_all
 ·rename_i op t x z s ho
  obtain⟨r,val,h1,h2,h3⟩:=ir hT e (h.ev x) (h.ev z) x z;exact same (v:=val) (x:= .c r) (by
   simp only[execOp,ho,Sem.run_bind];simp_all) h3 h1
 ·rename_i op t x ho
  obtain⟨r,val,h1,h2,h3⟩:=mb (P:=P) e (h.ev x);exact same (v:=val) (x:= .c r) (by grind[execOp,Sem.run_bind,Result.andThen_ok,Sem.run_pure]) h3 h1
 ·grind[ACX]
 ·rename_i f first LO ho
  split at e
  case isFalse=>cases e
  rename_i hf;split at e
  case h_2=>cases e
  rename_i bs hbs;obtain⟨q1,q2⟩:=sJ hbs (evs h LO.toList);have AbQ:first.map a.eval= #[]:=by
   simp_all
  have Afy:LO.map a.eval=(bs.map fun b=>Value.pointer (some ⟨E.Ia b,0,none⟩)).toArray:=by
   grind
  refine same (v:= .func (.func f) #[] (bs.map fun b=>Value.pointer (some ⟨E.Ia b,0,none⟩)).toArray) ?_ (x:= .c (.fn f bs)) ⟨q1,rfl⟩ e
  grind[execOp,Instr.makeFunc,Sem.run_bind,Sem.run_pure,Result.andThen_ok]
 ·grind[ACW]
 ·rename_i t x lo hi ho
  obtain⟨z,val,h1,h2,h3⟩:=lQ hT hB st e (h.ev x) (ABt h lo) (ABt h hi);grind[execOp,Sem.run_bind,Result.andThen_ok,Sem.run_pure]
 ·rename_i t x f ho
  split at e
  case h_2=>cases e
  rename_i z hz;obtain⟨u,h1,h2⟩:=ku hT hz (h.ev x);grind[execOp,Sem.run_bind,Result.andThen_ok,Sem.run_pure]
 ·rename_i t x f ho
  split at e
  case h_2=>cases e
  rename_i z hz;obtain⟨u,h1,h2⟩:=od hT hz (h.ev x);grind[execOp,Sem.run_bind,Result.andThen_ok,Sem.run_pure]
 ·rename_i t x i ho
  obtain⟨z,val,h1,h2,h3⟩:=kh hT hB st e (h.ev x) (h.ev i);grind[execOp,Sem.run_bind,Result.andThen_ok,Sem.run_pure]
 ·rename_i t x i ho
  obtain⟨z,val,h1,h2,h3⟩:=df hT e (h.ev x) (h.ev i);grind[execOp,Sem.run_bind,Result.andThen_ok,Sem.run_pure]
 ·rename_i x i ho
  split at e
  case h_2=>cases e
  rename_i z hz;obtain⟨u,h1,h2⟩:=fH (P:=P) hz (h.ev x);grind[execOp,Sem.run_bind,Result.andThen_ok,Sem.run_pure]
 ·rename_i f args su ho
  rw[ho]at uG;cases uG
 ·rename_i args su ho
  split at e
  ·rename_i s t I4 hts
   obtain⟨x,rfl,hx⟩:=Yc I4;have hv:=h.ev x;rw[hx]at hv;have Zh:=Yh (E:=E) (w:=w) (vw:=σ.bx) hv;split at e
   case isFalse=>cases e
   rename_i hs;have hu:=YQ hT hs;refine same (v:= .int .i64 (s.length:Int)) (x:= .c (.v (.int .i64) (s.length:Int))) ?_ (VR.int (E:=E) (vw:=σ.bx) _ _) e
   have QW:(⟨s.toArray⟩:ByteArray).size=s.length:=by rfl
   simp[execOp,ho,resolve,invoke,builtin,Builtin.len_,hts,Zh,Bh hu,goInt,QW]
  ·rename_i z t _ I4 hts
   obtain⟨x,rfl,hx⟩:=Yc I4;have hv:=h.ev x;rw[hx]at hv;split at e
   case isFalse=>cases e
   rename_i hs;split at e
   case h_2=>cases e
   rename_i n hn;obtain⟨el,hu⟩:=mC hT hs;obtain⟨ad,cap,Zh⟩:=oG hB st hn hv;refine same (v:= .int .i64 (n:Int)) (x:= .c (.v (.int .i64) (n:Int))) ?_ (VR.int (E:=E) (vw:=σ.bx) _ _) e
   simp[execOp,ho,resolve,invoke,builtin,Builtin.len_,hts,Zh,Bh hu,goInt]
  simp_all
 ·rename_i args su ho
  split at e
  case h_2=>cases e
  rename_i x1 x2 I4;exact xF hT h ho rfl I4 e
 ·rename_i args su ho
  split at e
  case h_2=>cases e
  rename_i x I4;exact AAw hT h ho rfl I4 e (fun b p off n hx=>by grind[Ky])
 ·rename_i args su ho
  split at e
  case h_2=>cases e
  rename_i x1 x2 I4;obtain⟨o1,o2,rfl,hx1,hx2⟩:=YX I4;have eL:=h.ev o1;have aP:=h.ev o2;rw[hx1]at eL;rw[hx2]at aP;obtain⟨r,val,h1,h2,h3⟩:=Ut (P:=P) (big:=true) e eL aP su #[] o.type;simp only[AVR]at h2;exact same (v:=val) (x:= .c r) (by simp[execOp,ho,resolve,invoke,builtin,h2]) h3 h1
 ·rename_i args su ho
  split at e
  case h_2=>cases e
  rename_i x1 x2 I4;obtain⟨o1,o2,rfl,hx1,hx2⟩:=YX I4;have eL:=h.ev o1;have aP:=h.ev o2;rw[hx1]at eL;rw[hx2]at aP;obtain⟨r,val,h1,h2,h3⟩:=Ut (P:=P) (big:=false) e eL aP su #[] o.type;simp only[AO5,ATF]at h2;exact same (v:=val) (x:= .c r) (by simp[execOp,ho,resolve,invoke,builtin,h2]) h3 h1
 simp_all
end
end Go.Fw
end
section
namespace Go.Fw
def alive(l:List BP)(i:Nat):Bool:=
 match l[i]? with
 |some .gone=>false
 |some _=>true
 |none=>false
def AP.MY(l:List BP):AP->Bool
 | .sl s _=>s
 | .pS _=>false
 | .l9 _ _=>false
 | .sf _ _=>false
 | .ref i=>decide (i<l.length)
 | .ptr i _=>alive l i
 | .fn _ LO=>LO.all (alive l)
 |_=>true
def XP.MY(l:List BP):XP->Bool
 | .c p=>p.MY l
 | .agg q=>q.all (AP.MY l)
 | .NW q=>q.all fun| .inl p=>p.MY l| .inr q=>q.all (AP.MY l)
 | .row _=>false
def BP.MY(l:List BP):BP->Bool
 | .mem q=>q.all (AP.MY l)
 |_=>true
def kinds:List BP->List BP->Bool
 |[],_=>true
 | .mem _::l,.mem _::m=>kinds l m
 | .sl _ r::l,.sl _ q::m=>decide (r=q)&&kinds l m
 | .mem _::l,.gone::m=>kinds l m
 | .sl _ _::l,.gone::m=>kinds l m
 |_,_=>false
def nc(l:List BP):List (Nat×XP)->Bool
 |[(0,p)]=>p.MY l
 |_=>false
def Qn.ok(c:Qn):Bool:=
 kinds c.ins.HO c.outs.HO&&nc c.outs.HO c.outs.EH&&c.outs.HO.all (BP.MY c.outs.HO)
theorem Xy:∀{l m:List BP},kinds l m=true->l.length<=m.length/\ ∀(i:Nat) p,l[i]? =some p->p≠ .gone/\ ∀d r,m[i]? =some (.sl d r)-> ∃d',p= .sl d' r
 |[],m,_=>⟨by simp,fun i p h=>by simp at h⟩
 | .gone::l,[],h=>by simp[kinds]at h
 | .gone::l,_::_,h=>by simp[kinds]at h
 | .mem _::l,[],h=>by simp[kinds]at h
 | .sl _ _::l,[],h=>by simp[kinds]at h
 | .mem q::l,.mem _::m,h=>by
  obtain⟨h1,h2⟩:=Xy (l:=l) (m:=m) (by simpa[kinds]using h);grind
 | .mem q::l,.gone::m,h=>by
  obtain⟨h1,h2⟩:=Xy (l:=l) (m:=m) (by simpa[kinds]using h);grind
 | .mem q::l,.sl _ _::m,h=>by simp[kinds]at h
 | .sl d0 r0::l,.sl _ q::m,h=>by
  simp only[kinds,AOw,APo]at h;obtain⟨h1,h2⟩:=Xy (l:=l) (m:=m) h.2;grind
 | .sl d0 r0::l,.gone::m,h=>by
  obtain⟨h1,h2⟩:=Xy (l:=l) (m:=m) (by simpa[kinds]using h);grind
 | .sl _ _::l,.mem _::m,h=>by simp[kinds]at h
def Yy(P:Program)(f:Nat)(c:Qn):Prop:=
 c.ok=true/\(∀args w,(callFunc f args).run P w= .ok (.enter f args) w)/\
 ∀(E:Env) (w:World) (v:c.ins.V) (args:Array Value) (u:c.outs.V),args.size=c.ins.EH.length->
  DQ E w (KM.mk id c.ins.HO v.2) (KM.mk id c.ins.HO v.2) []->PD E w (KM.mk id c.ins.HO v.2) id c.ins.EH v.1 args.toList->c.g v=some u->
  Calls P f args w fun e w' => ∃x E',e= .returned x/\fJ E w E' w'/\DQ E' w' (KM.mk id c.outs.HO u.2) (KM.mk id c.outs.HO u.2) []/\
   PD E' w' (KM.mk id c.outs.HO u.2) id c.outs.EH u.1 [x]/\ ∀i,i<c.ins.HO.length->alive c.outs.HO i=true->E'.Ia i=E.Ia i/\E'.IZ i=E.IZ i
theorem lW:∀x:AV,Gx [] x=x
 | .ref b (s::p)=>by rfl
 | .ref b []=>rfl
 | .win b (s::p) i n=>by rfl
 | .win b [] i n=>rfl
 | .Ju b (s::p) i sz j=>by rfl
 | .Ju b [] i sz j=>rfl
 | .v _ _=>rfl
 | .sl _ _ _=>rfl
 | .nil=>rfl
 | .I0 _ _=>rfl
 | .QX _ _ _ _=>rfl
 | .fn _ _=>rfl
 | .sf _ _=>rfl
 | .AAc=>rfl
 | .undef=>rfl
theorem aQ:Gx []=id:=funext lW
theorem vK:∀x:XV,V_ [] x=x
 | .c x=>by simp[V_,lW]
 | .agg l=>by simp[V_,aQ]
 | .NW l=>by
  simp only[V_,aQ];congr 1
  conv=>rhs;rw[<-List.map_id l]
  apply AVf;intro x _;cases x with
  |inl x=>simp
  |inr q=>simp
theorem uB(m:Qi)(σ:St):(σ.aw m).tm=σ.tm.map (V_ m):=by
 cases m with
 |nil=>
  simp only[St.aw];have:V_ []=id:=funext vK;simp_all
 |cons _ _=>rfl
theorem ACN(m:Qi)(σ:St):(σ.aw m).bx=σ.bx.map (Bx.map (Gx m)):=by
 cases m with
 |nil=>grind[St.aw,aQ,ba]
 |cons _ _=>
  rfl
theorem et(f:AV->AV):∀(m:Qi) (bx:List Bx),DB (bx.map (Bx.map f)) m=(DB bx m).map (Bx.map f)
 |[],_=>rfl
 |none::m,bx=>by simp only[DB];exact et f m bx
 |some b::m,bx=>by
  simp only[DB];rw[<-et f m (bx.set b .dead),List.map_set];rfl
theorem SU:∀{m:Qi} {bx:List Bx} {b:Nat},some b∉m->(DB bx m)[b]? =bx[b]?
 |[],_,_,_=>rfl
 |none::m,bx,b,h=>by simp only[DB];exact SU (by simp_all)
 |some c::m,bx,b,h=>by
  simp only[DB];rw[SU (by simp_all),AVL (by grind)]
theorem ACt{E E':Env}{w w':World}{vw vw':List Bx}{m:Qi}(k:T8 E w vw E' w' (DB vw' m))
  (hb:∀b d' r DE,some b∈m->vw'[b]? =some (.sl d' r DE)-> ∃d rows,vw[b]? =some (.sl d r rows)/\List.length DE=List.length rows/\E'.IZ b=E.IZ b) (hlen:vw.length<=vw'.length) {x:AV} {v:Value} (h:VR E w vw x v):VR E' w' vw' (Gx m x) v:=by
 have h1:=Gi k h;have gG:∀{b'},some b'∉m->(DB vw' m)[b']? =vw'[b']?:=fun e=>SU e
 have get:∀{b'},b'<vw.length-> ∃B,vw'[b']? =some B:=fun hl=>⟨_,AOM (by omega)⟩
 cases x with
 |v t x=>exact h1
 |sl s r x=>exact h1
 |nil=>exact h1
 |I0 c j=>exact⟨by simpa[LW]using h1.1,h1.2⟩
 |QX s r x j=>exact h1
 |fn f LO=>exact⟨fun c hc=>by simpa[LW]using h1.1 c hc,h1.2⟩
 |sf f rows=>exact h1
 |AAc=>exact h1
 |undef=>trivial
 |ref c p=>
  have other:some c∉m->VR E' w' vw' (.ref c p) v:=fun e=>by
   grind[VR]
  cases p with
  |nil=>
   simp only[Gx];by_cases e:some c∈m
   ·simp only[VR]at h|-
    obtain⟨h0,h⟩:=h;refine⟨h0,?_⟩;cases hc:vw[c]? with
    |none=>simp_all
    |some B=>
     obtain⟨B',Uf⟩:=get (AOS.1 hc).1;rw[Uf];cases B' with
     |mem cs=>trivial
     |dead=>trivial
     |sl d' r DE=>
      obtain⟨d,rows,e1,e2,e3⟩:=hb c d' r DE e Uf;rw[e1]at h;refine⟨by simp[DT],⟨_,rfl⟩,?_⟩;grind[DL]
   simp_all
  |cons s p=>
   simp only[Gx];split
   ·trivial
   simp_all
 |win c p off n=>
  have other:some c∉m->VR E' w' vw' (.win c p off n) v:=fun e=>by
   grind[VR]
  cases p with
  |nil=>
   simp only[Gx];by_cases e:some c∈m
   ·simp only[VR]at h|-
    obtain⟨h0,h⟩:=h;refine⟨h0,?_⟩;cases hc:vw[c]? with
    |none=>simp_all
    |some B=>
     obtain⟨B',Uf⟩:=get (AOS.1 hc).1;rw[Uf];cases B' with
     |mem cs=>trivial
     |dead=>trivial
     |sl d' r DE=>
      obtain⟨d,rows,e1,e2,e3⟩:=hb c d' r DE e Uf;rw[e1]at h;obtain⟨_,q,ys,a,len,cap,g1,g2,g3,g4⟩:=h;simp only[HZ,AON,ARQ]at g1;obtain⟨rfl,g1⟩:=g1;obtain rfl:=AU_ g1;rw[DL]at g3;exact⟨by simp[DT],r,DE,a,len,cap,rfl,by omega,by grind[DL],g4⟩
   simp_all
  |cons s p=>
   simp only[Gx];split
   ·trivial
   simp_all
 |Ju c p i sz j=>
  have other:some c∉m->VR E' w' vw' (.Ju c p i sz j) v:=fun e=>by
   grind[VR]
  cases p with
  |nil=>
   simp only[Gx];by_cases e:some c∈m
   ·simp only[VR]at h|-
    obtain⟨h0,h⟩:=h;refine⟨h0,?_⟩;cases hc:vw[c]? with
    |none=>simp_all
    |some B=>
     obtain⟨B',Uf⟩:=get (AOS.1 hc).1;rw[Uf];cases B' with
     |mem cs=>trivial
     |dead=>trivial
     |sl d' r DE=>
      obtain⟨d,rows,e1,e2,e3⟩:=hb c d' r DE e Uf;rw[e1]at h;obtain⟨_,q,ys,bb,o,len,cap,g1,g2,g3,g4⟩:=h;simp only[HZ,AON,ARQ]at g1;obtain⟨rfl,g1⟩:=g1;obtain rfl:=AU_ g1;rw[DL]at g3;exact⟨by simp[DT],r,DE,bb,o,len,cap,rfl,by omega,by grind[DL],g4⟩
   simp_all
  |cons s p=>
   simp only[Gx];split
   ·trivial
   simp_all
theorem ADO{E E':Env}{w w':World}{vw vw':List Bx}{m:Qi}(k:∀x v,VR E w vw x v->VR E' w' vw' (Gx m x) v){x:XV}{v:Value}(h:XR E w vw x v):XR E' w' vw' (V_ m x) v:=by
 cases x with
 |c x=>exact k x v h
 |agg l=>
  obtain⟨vs,rfl,Wy⟩:=h;exact⟨vs,rfl,Cg.MR _ k Wy⟩
 |NW l=>
  obtain⟨vs,rfl,Wy⟩:=h;refine⟨vs,rfl,Cg.MR _ (fun x v hx=> ?_) Wy⟩;cases x with
  |inl x=>exact k x v hx
  |inr q=>
   obtain⟨us,rfl,hus⟩:=hx;exact⟨us,rfl,Cg.MR _ k hus⟩
def MA(Jt:Nat->Nat):Nat->List Bx->List Bx->List Bx
 |_,[],bx=>bx
 |i,B::l,bx=>MA Jt (i+1) l (if Jt i<bx.length then bx.set (Jt i) B else bx++[B])
theorem oA(Jt:Nat->Nat):∀(i:Nat) (l:List BP) (x:KM.V l) (bx:List Bx),cH Jt i l x bx=MA Jt i (KM.mk Jt l x) bx
 |_,[],_,_=>rfl
 |i,p::l,x,bx=>by simp only[cH,KM.mk,MA];exact oA Jt (i+1) l x.2 _
structure wu (Jt:Nat->Nat) (M N:Nat):Prop where
 lt:∀k,k<M->Jt k<N
 eq:∀k,M<=k->Jt k=N+(k-M)
 inj:∀k k',k<M->k'<M->Jt k=Jt k'->k=k'
theorem wu.AYD{Jt:Nat->Nat}{M N:Nat}(h:wu Jt M N){k k':Nat}(e:Jt k=Jt k'):k=k':=by
 by_cases h1:k<M
 ·by_cases h2:k'<M
  ·exact h.inj k k' h1 h2 e
  ·have:=h.lt k h1
   have:=h.eq k' (by omega);omega
 ·by_cases h2:k'<M
  ·have:=h.lt k' h2
   have:=h.eq k (by omega);omega
  ·have:=h.eq k (by omega)
   have:=h.eq k' (by omega);omega
theorem iL{Jt:Nat->Nat}{M N:Nat}(h:wu Jt M N):∀{l:List Bx} {i:Nat} {bx:List Bx},bx.length=N+(i-M)->
  (MA Jt i l bx).length=N+(i+l.length-M)/\(∀(j:Nat) B,l[j]? =some B->(MA Jt i l bx)[Jt (i+j)]? =some B)/\
   ∀n,n<bx.length->(∀j,j<l.length->Jt (i+j)≠n)->(MA Jt i l bx)[n]? =bx[n]?
 |[],i,bx,hl=>⟨by grind[MA],fun j B hj=>by simp_all,fun _ _ _=>rfl⟩
 |B::l,i,bx,hl=>by
  simp only[MA];have kQ:(if Jt i<bx.length then bx.set (Jt i) B else bx++[B]).length=N+(i+1-M):=by
   split
   ·rename_i Ha
    by_cases hi:i<M
    ·grind
    ·have:=h.eq i (by omega);omega
   ·rename_i Ha
    by_cases hi:i<M
    ·have:=h.lt i hi;omega
    grind
  have bt:(if Jt i<bx.length then bx.set (Jt i) B else bx++[B])[Jt i]? =some B:=by
   split
   ·simp_all
   ·rename_i Ha
    by_cases hi:i<M
    ·grind
    ·have:=h.eq i (by omega)
     grind
  obtain⟨q1,q2,q3⟩:=iL h (l:=l) kQ;refine⟨by grind,fun j C hj=> ?_,fun n hn ew=> ?_⟩
  ·cases j with
   |zero=>
    simp at hj;subst hj;exact(q3 (Jt i) (AOS.1 bt).1 (fun j hj e=>by have:=h.AYD e;omega)).trans bt
   |succ j=>
    grind
  ·have Abt:=ew 0 (by simp)
   rw[AW4]at Abt;rw[q3 n (by omega) (fun j hj=>by have:=ew (j+1) (by simp_all);grind)];grind
theorem fy{Jt:Nat->Nat}{M N:Nat}(h:wu Jt M N){E:Env}{w:World}{vw:List Bx}:∀{l:List Bx} {i:Nat} {bx:List Bx} {Fs:List ABU},bx.length=N+(i-M)->(∀k,i<=k->k<M->bx[Jt k]? =some .dead)->
  Fs.length=l.length->(∀(j:Nat) B F,l[j]? =some B->Fs[j]? =some F->sd E w vw (Jt (i+j)) B F)->DQ E w vw bx Fs.flatten->DQ E w vw (MA Jt i l bx) []
 |[],i,bx,Fs,hl,hd,hF,hB,wg=>by
  grind[List.eq_nil_of_length_eq_zero,MA]
 |B::l,i,bx,F::Fs,hl,hd,hF,hB,wg=>by
  simp only[MA];have hBi:=hB 0 B F rfl rfl;rw[AW4]at hBi;have next:∀{RX},RX.length=N+(i+1-M)->(∀k,i+1<=k->k<M->RX[Jt k]? =some .dead)->DQ E w vw RX Fs.flatten->DQ E w vw (MA Jt (i+1) l RX) []:=by
   intro RX h1 h2 h3;refine fy h h1 h2 (by simp_all) (fun j C G hC hG=> ?_) h3;have:=hB (j+1) C G (by simp_all) (by simp_all);grind
  rw[AWn]at wg;by_cases hi:i<M
  ·have Ha:=h.lt i hi
   rw[AOJ (by omega)];refine next (by grind) (fun k hk1 hk2=> ?_) (wg.put (hd i (ATX _) hi) hBi);rw[AVL (fun e=>by have:=h.AYD e;omega)];grind
  ·have heq:=h.eq i (by omega)
   rw[AOK (by omega)];have e1:Jt i=bx.length:=by omega
   rw[e1]at hBi;exact next (by grind) (fun k hk1 hk2=>by omega) (wg.push hBi)
 |_::_,_,_,[],_,_,hF,_,_=>by simp_all
structure vx (E' E2:Env) (l:List BP) (u:KM.V l) (vw2:List Bx) (Jt:Nat->Nat):Prop where
 ids:∀i,alive l i=true->E2.Ia (Jt i)=E'.Ia i/\E2.IZ (Jt i)=E'.IZ i
 bx:∀(i:Nat) p,l[i]? =some p-> ∃y,(KM.mk id l u)[i]? =some (p.mk id y)/\vw2[Jt i]? =some (p.mk Jt y)
 S:E2.S=E'.S
theorem dP(Jt:Nat->Nat):∀{l:List BP} {u:KM.V l} {i:Nat} {p:BP},l[i]? =some p-> ∃y:p.V,(KM.mk id l u)[i]? =some (p.mk id y)/\(KM.mk Jt l u)[i]? =some (p.mk Jt y)
 |q::l,u,0,p,h=>by
  simp at h;subst h;exact⟨u.1,rfl,rfl⟩
 |q::l,u,i+1,p,h=>by
  obtain⟨y,h1,h2⟩:=dP Jt (u:=u.2) (i:=i) (by simpa using h);grind[KM.mk]
 |[],_,_,_,h=>by simp at h
theorem Ui(Jt:Nat->Nat):∀{l:List BP} {u:KM.V l},(KM.mk Jt l u).length=l.length
 |[],_=>rfl
 |_::l,u=>by simp[KM.mk,Ui Jt (l:=l)]
section
variable{E' E2:Env} {w:World} {l:List BP} {u:KM.V l} {vw2:List Bx} {Jt:Nat->Nat} (r:vx E' E2 l u vw2 Jt)
include r
omit r in
theorem uQ{i:Nat}(h:alive l i=true):∃p,l[i]? =some p/\p≠ .gone:=by
 unfold alive at h;cases e:l[i]? with
 |none=>rw[e]at h;cases h
 |some p=>
  refine⟨p,rfl,fun hp=> ?_⟩;rw[e,hp]at h;cases h
theorem AAE{p:AP}{y:p.V}{v:Value}(EP:p.MY l=true)(h:VR E' w (KM.mk id l u) (p.mk id y) v):VR E2 w vw2 (p.mk Jt y) v:=by
 cases p with
 |v t=>exact h
 |sl s q=>
  simp only[AP.MY]at EP;subst EP;simp only[AP.mk,VR,AVR]at h|-;rw[r.S];omega
 |nil=>exact h
 |ref i=>
  simp only[AP.MY,APo]at EP;obtain⟨p,hp⟩:∃p,l[i]? =some p:=⟨_,AOM EP⟩;obtain⟨z,z1,z2⟩:=r.bx i p hp;simp only[AP.mk,VR,id]at h|-;refine⟨h.1,?_⟩;have h2:=h.2;rw[z1]at h2;rw[z2];cases p with
  |mem q=>trivial
  |gone=>trivial
  |sl d q=>
   have hid:=(r.ids i (by simp[alive,hp])).2;grind[BP.mk]
 |ptr i j=>
  simp only[AP.MY]at EP;obtain⟨p,hp,hg⟩:=uQ EP;obtain⟨z,z1,z2⟩:=r.bx i p hp;refine⟨(AOS.1 z2).1,?_⟩;rw[(r.ids i EP).1];exact h.2
 |pS q=>simp[AP.MY]at EP
 |l9 i sz=>simp[AP.MY]at EP
 |sf f rs=>simp[AP.MY]at EP
 |fn f LO=>
  simp only[AP.MY,AVk]at EP;obtain⟨h1,h2⟩:=h;refine⟨fun b hb=> ?_,?_⟩
  ·obtain⟨i,hi,rfl⟩:=AVh.1 hb
   obtain⟨p,hp,_⟩:=uQ (EP i hi);obtain⟨z,_,z2⟩:=r.bx i p hp;grind
  ·rw[h2,AXP]
   congr 2
   rw[AXP];apply AVf;intro i hi;simp only[Function.comp,id,(r.ids i (EP i hi)).1]
 |any=>trivial
theorem p9:∀{q:List AP} {y:ZJ.V q} {vs:List Value},q.all (AP.MY l)=true->kM E' w (KM.mk id l u) (ZJ.mk id q y) vs->kM E2 w vw2 (ZJ.mk Jt q y) vs
 |[],_,[],_,_=>trivial
 |[],_,_::_,_,h=>h.elim
 |p::q,y,[],_,h=>h.elim
 |p::q,y,v::vs,EP,h=>by
  simp only[AVl,AOw]at EP;exact⟨AAE r EP.1 h.1,p9 EP.2 h.2⟩
theorem wN:∀{q:List (AP ⊕ List AP)} {y:aA.V q} {vs:List Value},(q.all fun| .inl p=>p.MY l| .inr q=>q.all (AP.MY l))=true->Cg (TR E' w (KM.mk id l u)) (aA.mk id q y) vs->Cg (TR E2 w vw2) (aA.mk Jt q y) vs
 |[],_,[],_,_=>trivial
 |[],_,_::_,_,h=>h.elim
 | .inl p::q,y,[],_,h=>h.elim
 | .inr p::q,y,[],_,h=>h.elim
 | .inl p::q,y,v::vs,EP,h=>by
  simp only[AVl,AOw]at EP;exact⟨AAE r EP.1 h.1,wN EP.2 h.2⟩
 | .inr p::q,y,v::vs,EP,h=>by
  simp only[AVl,AOw]at EP;obtain⟨us,e,hus⟩:=h.1;exact⟨⟨us,e,p9 r EP.1 hus⟩,wN EP.2 h.2⟩
theorem ARC{p:XP}{y:p.V}{v:Value}(EP:p.MY l=true)(h:XR E' w (KM.mk id l u) (p.mk id y) v):XR E2 w vw2 (p.mk Jt y) v:=by
 cases p with
 |c p=>exact AAE r EP h
 |agg q=>
  obtain⟨vs,e,Wy⟩:=h;exact⟨vs,e,p9 r EP Wy⟩
 |row q=>simp[XP.MY]at EP
 |NW q=>
  obtain⟨vs,e,Wy⟩:=h;exact⟨vs,e,wN r EP Wy⟩
theorem ATA{i:Nat}{p:BP}{y:p.V}{F:ABU}(hi:l[i]? =some p)(EP:p.MY l=true)(h:sd E' w (KM.mk id l u) i (p.mk id y) F):sd E2 w vw2 (Jt i) (p.mk Jt y) F:=by
 cases p with
 |mem q=>
  obtain⟨h1,arr,ty,fr,h2,h3,h4⟩:=h;have hid:=(r.ids i (by simp[alive,hi])).1;exact⟨by simp_all,arr,ty,fr,by simp_all,h3,p9 r EP h4⟩
 |sl d q=>
  obtain⟨h1,h2⟩:=h;refine⟨h1,?_⟩;rw[(r.ids i (by simp[alive,hi])).2,r.S];omega
 |gone=>exact h
end
end Go.Fw
end
