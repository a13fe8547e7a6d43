/- The framework, part 1: a checked interpreter of the model's code over abstract states; no claim is made here. -/
import Derived.Calls
import Derived.Still
import Derived.Laws.World
import Derived.Laws.AppendOwn
import Derived.RowKit3
import Derived.Deep.MidRow
import Derived.Laws.StructEq
import Derived.Lib.ConvBytes
import Derived.Laws.BytesArg
import Derived.Tactics
import Derived.OrdersHeld
import Derived.ChangeArms
import Derived.ChangeOld
import Derived.DataReads
import Derived.Below
import Derived.Shelf.Spec.SlicesInsertGrow
import Derived.Shelf.Slices.Delete
set_option linter.unusedVariables false
set_option linter.unusedSimpArgs false
set_option linter.unusedSectionVars false
abbrev ADG:Type:=Int × Int × Bool × List UInt8 × Unit
abbrev AGd:Type:=List UInt8 × List Int × Bool × Unit
abbrev AFc:Type:=List Int × Bool × Int × Unit
abbrev AFD:Type:=Int × Int × List UInt8 × Unit
abbrev ADS:Type:=Int × List UInt8 × Bool × Unit
abbrev AAH:Type:=List Int
abbrev ADQ:Type:=Unit × Int × Unit × Unit × Unit × Int × Unit × Unit × Unit × Unit × Bool × Unit
abbrev AHg:Type:=Int × Bool × Int × Int × Bool × List UInt8 × Unit
abbrev ACh:Type:=Int × Int × Int × Int × List UInt8 × Unit
abbrev ABT:Type:=Bool × Unit
abbrev ABL:Type:=List Int × Int × Unit
abbrev ABg:Type:=Int × Unit
abbrev ADL:Type:=List Int × Int × Int × Unit
abbrev AHG:Type:=Int × Int × Unit × Unit × Bool × Unit × Unit
abbrev ACL:Type:=Unit × Unit
abbrev AG3:Type:=Unit × Unit × Int × Unit
abbrev ACr:Type:=List Int × Unit
abbrev ABJ:Type:=List Nat
abbrev AGU:Type:=Unit × Int × Unit
abbrev AGV:Type:=Int × Int × Unit × Unit
abbrev AGT:Type:=Int × Unit × Unit
abbrev AHV:Type:=Int × Bool × Unit
abbrev ADE:Type:=Nat × Nat
abbrev AGN:Type:=Unit × List Int × Unit
abbrev AGF:Type:=Nat × List Nat
abbrev ACD:Type:=List UInt8
abbrev AGO:Type:=List UInt8 × Unit
abbrev ABZ:Type:=Int × Int × List Int × List ADG × Bool × List AAH × Unit
abbrev ACc:Type:=List ADG × List ADG × Int × Unit
abbrev ADF:Type:=Int × Int × List AFD × Unit
abbrev ACI:Type:=Int × List AGd × Unit
abbrev ABE:Type:=List ADG
abbrev AAX:Type:=List ADS
abbrev AAo:Type:=List AFc
abbrev ABk:Type:=List AFc × Int × Unit
abbrev AHr:Type:=ADQ × Int × Unit
abbrev AIg:Type:=AG3 × Bool × Unit
abbrev AB7:Type:=List AGd
abbrev AIo:Type:=AHG × Bool × Unit
abbrev ADH:Type:=List AFD
abbrev ADg:Type:=ADL × Unit
abbrev AKA:Type:=AGT × Bool × Unit
abbrev AIx:Type:=AGU × Bool × Unit
abbrev AIs:Type:=ADG × Bool × Unit
abbrev AEd:Type:=AHV × Unit
abbrev ACv:Type:=List AHg
abbrev AGM:Type:=ADL × List Int × Unit
abbrev AEx:Type:=AGU × Unit
abbrev AE1:Type:=AHG × Unit
abbrev AFi:Type:=AGV × Unit
abbrev ADI:Type:=ABg × Unit
abbrev AFs:Type:=ACh × Unit
abbrev AFl:Type:=ADQ × Unit
abbrev AGZ:Type:=AGT × Int × Bool × Unit
abbrev AGY:Type:=AGU × Int × Bool × Unit
abbrev AGQ:Type:=AGT × Unit
abbrev AGP:Type:=AG3 × Unit
abbrev AEY:Type:=List ACh
abbrev AGX:Type:=AGV × Int × Unit
abbrev ABN:Type:=List Int × Int × List ACc × List Int × List AFc × Int × List ACI × List ABZ × List ADF × List ADS × Bool × Unit
abbrev AAh:Type:=List ACc
abbrev AAs:Type:=List ADF
abbrev AA1:Type:=List ACI
abbrev ABB:Type:=List ABZ
abbrev ADN:Type:=List Int × ABE × List AAH × Unit
abbrev ADM:Type:=ABE × ABE × Unit
abbrev ADJ:Type:=AHr × Unit
abbrev ADO:Type:=AIg × Unit
abbrev AEP:Type:=AIo × Unit
abbrev AD7:Type:=AB7 × Unit
abbrev ADz:Type:=AAo × Unit
abbrev AEs:Type:=ADH × Unit
abbrev AEq:Type:=ABE × Unit
abbrev AE8:Type:=AIs × Unit
abbrev AFb:Type:=AIx × Unit
abbrev AFJ:Type:=AKA × Unit
abbrev AGR:Type:=Unit × ABE × Unit
abbrev AGW:Type:=AGV × Unit × ADH × Unit
abbrev ADK:Type:=List Int × AAh × List Int × AAo × AA1 × ABB × AAs × AAX × Unit
abbrev ADP:Type:=ADQ × List Int × AAh × List Int × AAo × AA1 × ABB × AAs × AAX × Unit
abbrev AGS:Type:=List Int × Int × AAh × List Int × AAo × Int × AA1 × ABB × AAs × AAX × Bool × Unit
abbrev AGc:Type:=ADQ × List Int × AAh × Unit × AAo × AA1 × ABB × AAs × AAX × List Int × Unit
abbrev AGa:Type:=List Int × AAh × Unit × AAo × AA1 × ABB × AAs × AAX × List Int × Unit
abbrev AGb:Type:=AAh × ABE × ABE × Unit
abbrev AKr:=@Bool.eq_false_or_eq_true
abbrev ALP:=@if_pos
abbrev ALR:=@List.getElem?_eq_getElem
abbrev ALo:=@if_neg
abbrev ALt:=@Option.some.injEq
abbrev AL9:=@Option.map_eq_some_iff
abbrev AMC:=@Bool.and_eq_true
abbrev AMG:=@List.getElem?_eq_some_iff
abbrev AMH:=@Bool.false_eq_true
abbrev AMO:=@Bool.not_true
abbrev AMR:=@Option.bind_eq_some_iff
abbrev AMZ:=@Int.toNat_natCast
abbrev AMh:=@cond_false
abbrev AMi:=@decide_eq_true_eq
abbrev AMk:=@List.getElem_mem
abbrev AMn:=@Bool.true_and
abbrev AMo:=@List.drop_eq_nil_of_le
abbrev AMy:=@cond_true
abbrev AM0:=@Option.bind_some
abbrev AM3:=@List.append_nil
abbrev AM4:=@Sigma.mk.injEq
abbrev AM6:=@List.nodup_append
abbrev AM_:=@List.append_assoc
abbrev AND:=@List.getElem?_append_left
abbrev ANL:=@List.length_cons
abbrev ANe:=@List.mem_of_getElem?
abbrev ANg:=@List.getElem?_append_right
abbrev AOJ:=@List.mem_cons
abbrev AON:=@if_false
abbrev AOi:=@Nat.mul_le_mul_right
abbrev AOl:=@List.mem_append
abbrev AOs:=@List.length_append
abbrev APN:=@Bool.not_eq_true
abbrev APU:=@Bool.not_eq_false'
abbrev APh:=@beq_eq_false_iff_ne
abbrev APo:=@Prod.mk.injEq
abbrev APu:=@List.eq_nil_of_length_eq_zero
abbrev AQE:=@Nat.le_refl
abbrev AQO:=@List.length_nil
abbrev AQQ:=@List.getElem_of_mem
abbrev AQY:=@List.cons.injEq
abbrev AQb:=@List.pairwise_cons
abbrev AQj:=@eq_of_heq
abbrev AQt:=@List.getElem?_map
abbrev AQ4:=@Nat.le_trans
abbrev AR7:=@decide_eq_true
abbrev ASR:=@List.length_filter_le
abbrev ASW:=@List.mem_flatten
abbrev ASZ:=@Bool.false_or
abbrev ASj:=@List.getElem?_set_ne
abbrev ATH:=@Bool.not_false
abbrev ATI:=@Bool.or_eq_true
abbrev ATJ:=@Bool.not_eq_true'
abbrev ATK:=@if_true
abbrev ATL:=@List.nil_append
abbrev ATM:=@Nat.lt_of_lt_of_le
abbrev ATN:=@List.drop_zero
abbrev ATO:=@Int.le_refl
abbrev ATP:=@Bool.false_and
abbrev ATQ:=@List.filter_cons
abbrev ATR:=@List.map_congr_left
abbrev ATS:=@and_true
abbrev ATT:=@List.take_of_length_le
abbrev ATU:=@List.mem_filter
abbrev ATV:=@List.take_succ_eq_append_getElem
abbrev ATW:=@decide_eq_false
abbrev ATX:=@Option.isSome_none
abbrev ATY:=@Option.isSome_some
abbrev ATZ:=@List.getElem?_eq_none
abbrev ATa:=@beq_iff_eq
abbrev ATb:=@Option.getD_some
abbrev ATc:=@List.mem_or_eq_of_mem_set
abbrev ATd:=@List.mem_map
abbrev ATe:=@List.getElem?_set_self
abbrev ATf:=@Nat.zero_add
abbrev ATg:=@List.all_eq_true
abbrev ATh:=@Bool.and_true
abbrev ATi:=@Bool.eq_false_iff
abbrev ATj:=@List.mem_singleton
abbrev ATk:=@List.mem_of_find?_eq_some
abbrev ATl:=@List.all_cons
abbrev ATm:=@Nat.add_mul
abbrev ATn:=@List.flatten_append
abbrev ATo:=@List.eq_of_mem_replicate
abbrev ATp:=@List.singleton_append
abbrev ATq:=@Nat.add_assoc
abbrev ATr:=@decide_eq_false_iff_not
abbrev ATs:=@List.drop_length
abbrev ATt:=@List.flatten_cons
abbrev ATu:=@Nat.add_zero
abbrev ATv:=@List.length_set
abbrev ATw:=@List.find?_cons
abbrev ATx:=@List.map_map
abbrev ATy:=@Nat.le_of_lt
abbrev AT0:=@Option.bind_assoc
abbrev AT4:=@Option.map_some
abbrev AUC:=@Int.toNat_of_nonneg
abbrev AUI:=@List.Perm.append_right
abbrev AUM:=@List.getElem_cons_zero
abbrev AUm:=@List.map_cons
abbrev AUs:=@List.contains_iff_mem
abbrev AUt:=@List.pairwise_iff_getElem
abbrev AUz:=@Classical.byContradiction
abbrev AVC:=@List.mem_of_mem_drop
abbrev AVM:=@List.ext_getElem?
abbrev AVV:=@Array.length_toList
abbrev AVk:=@Nat.sub_mul
abbrev AVn:=@List.getElem?_cons_succ
abbrev AVp:=@List.cons_append
abbrev AVv:=@List.flatten_nil
abbrev AVx:=@List.length_drop
abbrev AV0:=@List.length_take
abbrev AV1:=@Option.map_eq_none_iff
abbrev AWB:=@List.getElem?_drop
abbrev AWG:=@List.getElem?_take
abbrev AWT:=@List.Perm.append_left
abbrev AWX:=@List.length_replicate
abbrev AWf:=@List.nodup_cons
abbrev AWl:=@Array.getD_eq_getD_getElem?
abbrev AWp:=@List.getElem_set_self
abbrev AWt:=@Decidable.not_not
abbrev AWw:=@List.pairwise_map
abbrev AW6:=@List.exists_cons_of_length_eq_add_one
abbrev AXC:=@List.mem_of_mem_take
abbrev AXH:=@Bool.and_false
abbrev AXU:=@List.map_nil
abbrev AXW:=@List.set_cons_zero
abbrev AXX:=@List.length_map
abbrev AXY:=@List.length_eq_zero_iff
abbrev AXZ:=@Int.eq_ofNat_of_zero_le
abbrev AXa:=@Nat.eq_zero_or_pos
abbrev AXb:=@Array.size_append
abbrev AXc:=@List.size_toArray
abbrev AXd:=@Nat.zero_le
abbrev AXe:=@dite_true
abbrev AXf:=@List.set_append_right
abbrev AXg:=@Bool.true_or
abbrev AXh:=@beq_self_eq_true
abbrev AXi:=@List.mem_cons_of_mem
abbrev AXj:=@Bool.or_false
abbrev AXk:=@List.length_pos_iff
abbrev AXl:=@List.find?_some
abbrev AXm:=@List.filter_nil
abbrev AXn:=@List.drop_set_of_lt
abbrev AXo:=@List.take_set_of_le
abbrev AXp:=@List.set_set
abbrev AXq:=@Nat.sub_self
abbrev AXr:=@List.Perm.refl
abbrev AXs:=@List.mapM_cons
abbrev AXt:=@Nat.mul_le_mul
abbrev AXu:=@List.take_zero
abbrev AXv:=@not_or
section
namespace Go.Fw
inductive Ty where
 |int (k:IntKind)|bool|str|sl (r:Ty)|unit|cons (c r:Ty)
 deriving DecidableEq
@[reducible] def Ty.D:Ty→Type
 | .int _=>Int
 | .bool=>Bool
 | .str=>List UInt8
 | .sl r=>List r.D
 | .unit=>Unit
 | .cons c r=>c.D×r.D
def Ty.n:Ty→Nat
 | .unit=>0
 | .cons _ r=>r.n+1
 |_=>1
def Ty.z:(t:Ty)→t.D
 | .int _=>(0:Int)
 | .bool=>false
 | .str=>[]
 | .sl _=>[]
 | .unit=>()
 | .cons c r=>(c.z,r.z)
def Ty.flat:Ty→Bool
 | .sl _=>false
 | .cons c r=>c.flat&&r.flat
 |_=>true
def Ty.scalar:Ty→Bool
 | .int _| .bool| .str=>true
 |_=>false
structure WR where
 i:Nat
 sz:Nat
 j:Nat
inductive AV where
 |v (t:Ty) (x:t.D)
 |sl (s:Bool) (r:Ty) (x:List r.D)
 |nil
 |ref (b:Nat) (p:List WR)
 |win (b:Nat) (p:List WR) (off n:Nat)
 |IL (b j:Nat)
 |JK (b:Nat) (p:List WR) (i sz j:Nat)
 |PM (s:Bool) (r:Ty) (x:r.D) (j:Nat)
 |fn (f:Nat) (KZ:ABJ)
 |qv (f:Nat) (rows:List ((r:Ty)×r.D))
 |yW
 |undef
def AV.known:AV→Bool
 | .undef=>false
 |_=>true
inductive XV where
 |c (x:AV)
 |agg (l:List AV)
 |Me (l:List (AV ⊕ List AV))
inductive Bx where
 |mem (cs:List AV)
 |sl (d:Nat) (r:Ty) (rows:List r.D)
 |dead
structure St where
 tm:List XV
 bx:List Bx
def BO:(r:Ty)→(j:Nat)→r.D→Option ((t:Ty)×t.D)
 | .cons c _,0,x=>some ⟨c,x.1⟩
 | .cons _ r,j+1,x=>BO r j x.2
 | .unit,_,_=>none
 | .int k,0,x=>some ⟨.int k,x⟩
 | .bool,0,x=>some ⟨.bool,x⟩
 | .str,0,x=>some ⟨.str,x⟩
 | .sl r,0,x=>some ⟨.sl r,x⟩
 |_,_+1,_=>none
def oM{a b:Ty}(h:a=b)(x:a.D):b.D:=h▸x
def EB:(r:Ty)→(j:Nat)→r.D→(t:Ty)→t.D→Option r.D
 | .cons c _,0,x,t,y=>if h:t=c then some (oM h y,x.2)else none
 | .cons _ r,j+1,x,t,y=>(EB r j x.2 t y).map fun z=>(x.1,z)
 | .unit,_,_,_,_=>none
 | .int k,0,_,t,y=>if h:t= .int k then some (oM h y)else none
 | .bool,0,_,t,y=>if h:t= .bool then some (oM h y)else none
 | .str,0,_,t,y=>if h:t= .str then some (oM h y)else none
 | .sl r,0,_,t,y=>if h:t= .sl r then some (oM h y)else none
 |_,_+1,_,_,_=>none
def rowAt(r:Ty)(rows:List r.D)(i:Nat):r.D:=rows.getD i r.z
def G_:(r:Ty)→List r.D→List WR→Option ((q:Ty)×List q.D)
 |r,rows,[]=>some ⟨r,rows⟩
 |r,rows,s::p=>
  match BO r s.j (rowAt r rows s.i)with
  |some ⟨.sl q,x⟩=>G_ q x p
  |_=>none
def pX:(r:Ty)→List r.D→List WR→(q:Ty)→List q.D→Option (List r.D)
 |r,_,[],q,y=>if h:q=r then some (oM (congrArg Ty.sl h) y)else none
 |r,rows,s::p,q,y=>
  match BO r s.j (rowAt r rows s.i)with
  |some ⟨.sl r',x⟩=>(pX r' x p q y).bind fun x' =>(EB r s.j (rowAt r rows s.i) (.sl r') x').map fun row=>rows.set s.i row
  |_=>none
inductive TD where
 |int (k:IntKind)|bool|str|sl (e:Nat)|st (fs:List ADE)|ptr (e:Nat)|other
structure TI where
 size:Nat
 bytes:Nat
 desc:TD
 row:Option Ty
abbrev Jp:=List (Nat×TI)
def Jp.get:Jp→Nat→Option TI
 |[],_=>none
 |(u,i)::l,t=>if u=t then some i else Jp.get l t
def TD.agg:TD→Bool
 | .st _=>true
 |_=>false
def Jp.iT(T:Jp)(t:Nat):Option Ty:=
 match T.get t with
 |some ti=>ti.row
 |none=>none
def zb:Ty→AV
 | .int k=> .v (.int k) (0:Int)
 | .bool=> .v .bool false
 | .str=> .v .str []
 | .sl _=> .nil
 |_=> .undef
def bX:Ty→List AV
 | .cons c r=>zb c::bX r
 | .unit=>[]
 |t=>[zb t]
def qO:Value→AV
 | .int k n=> .v (.int k) n
 | .bool b=> .v .bool b
 | .string s=> .v .str s.data.toList
 | .slice none 0 0=> .nil
 | .pointer none=> .yW
 |_=> .undef
def ofValue:Value→XV
 | .agg cs=> .agg (cs.toList.map qO)
 |v=> .c (qO v)
def St.ev(σ:St):Operand→XV
 | .tmp t=>σ.tm.getD t (.c .undef)
 | .const v=>ofValue v
 | .global _=> .c .undef
 | .func f=> .c (.fn f [])
def St.put(σ:St)(dst:Option Tmp)(x:XV):St:=
 match dst with
 |some d=>{ σ with tm:=σ.tm.set d x }
 |none=>σ
def XV.cells:XV→List AV
 | .c x=>[x]
 | .agg l=>l
 | .Me _=>[]
def QO{β:Ty→Type}(a b:Ty)(x:β a):Option (β b):=if h:a=b then some (h▸x)else none
def NN(bx:List Bx):AV→Option ((r:Ty)×List r.D)
 | .sl _ r x=>some ⟨r,x⟩
 | .ref b p=>
  match bx[b]? with
  |some (.sl _ r rows)=>G_ r rows p
  |_=>none
 | .win b p off n=>
  match bx[b]? with
  |some (.sl _ r rows)=>(G_ r rows p).map fun q=>⟨q.1,(q.2.drop off).take n⟩
  |_=>none
 |_=>none
def Mr(bx:List Bx)(t:Ty)(x:AV):Option t.D:=
 match x with
 | .v u y=>QO (β:=Ty.D) u t y
 | .nil=>match t with
  | .sl _=>some []
  |_=>none
 |x=>match t with
  | .sl r=>(NN bx x).bind fun q=>QO (β:=fun r=>List r.D) q.1 r q.2
  |_=>none
def IA(bx:List Bx):(r:Ty)→List AV→Option r.D
 | .unit,[]=>some ()
 | .cons c r,x::l=>(Mr bx c x).bind fun a=>(IA bx r l).map fun b=>(a,b)
 |_,_=>none
def lenOf(bx:List Bx):AV→Option Nat
 | .nil=>some 0
 | .sl _ _ x=>some x.length
 | .ref b p=>
  match bx[b]? with
  |some (.sl _ r rows)=>(G_ r rows p).map fun q=>q.2.length
  |_=>none
 | .win b _ _ n=>
  match bx[b]? with
  |some (.sl _ _ _)=>some n
  |_=>none
 |_=>none
inductive AP where
 |v (t:Ty)
 |sl (s:Bool) (r:Ty)
 |nil
 |ref (i:Nat)
 |ptr (i j:Nat)
 |mr (r:Ty)
 |fn (f:Nat) (KZ:ABJ)
 |qv (f:Nat) (rs:List Ty)
 |any
 |j0 (i sz:Nat)
inductive XP where
 |c (p:AP)
 |agg (l:List AP)
 |row (r:Ty)
 |Me (l:List (AP ⊕ List AP))
inductive BP where
 |mem (l:List AP)
 |sl (d:Nat) (r:Ty)
 |gone
structure BZ where
 D3:List (Nat×XP)
 Gz:List BP
@[reducible] def ZB:List Ty→Type
 |[]=>Unit
 |r::l=>r.D×ZB l
def ZB.mk:(l:List Ty)→ZB l→List ((r:Ty)×r.D)
 |[],_=>[]
 |r::l,x=>⟨r,x.1⟩::ZB.mk l x.2
@[reducible] def AP.V:AP→Type
 | .qv _ rs=>ZB rs
 | .v t=>t.D
 | .sl _ r=>List r.D
 | .mr r=>r.D
 | .j0 _ _=>Nat×Nat
 |_=>Unit
@[reducible] def Xs.V:List AP→Type
 |[]=>Unit
 |p::l=>p.V×Xs.V l
@[reducible] def X2.V:List (AP ⊕ List AP)→Type
 |[]=>Unit
 | .inl p::l=>p.V×X2.V l
 | .inr q::l=>Xs.V q×X2.V l
@[reducible] def XP.V:XP→Type
 | .c p=>p.V
 | .agg l=>Xs.V l
 | .row r=>r.D
 | .Me l=>X2.V l
@[reducible] def BP.V:BP→Type
 | .mem l=>Xs.V l
 | .sl _ r=>List r.D
 | .gone=>Unit
@[reducible] def G5.V:List (Nat×XP)→Type
 |[]=>Unit
 |(_,p)::l=>p.V×G5.V l
@[reducible] def Jl.V:List BP→Type
 |[]=>Unit
 |p::l=>p.V×Jl.V l
@[reducible] def BZ.V (s:BZ):Type:=G5.V s.D3×Jl.V s.Gz
def AP.mk(m:Nat→Nat):(p:AP)→p.V→AV
 | .v t,x=> .v t x
 | .sl s r,x=> .sl s r x
 | .nil,_=> .nil
 | .ref i,_=> .ref (m i) []
 | .ptr i j,_=> .IL (m i) j
 | .mr r,x=> .PM false r x 0
 | .fn f KZ,_=> .fn f (KZ.map m)
 | .qv f rs,x=> .qv f (ZB.mk rs x)
 | .any,_=> .undef
 | .j0 i sz,k=> .ref (m i) [⟨k.1,sz,k.2⟩]
def Xs.mk(m:Nat→Nat):(l:List AP)→Xs.V l→List AV
 |[],_=>[]
 |p::l,x=>p.mk m x.1::Xs.mk m l x.2
def pc:(r:Ty)→r.D→List AV
 | .unit,_=>[]
 | .cons c r,x=>(match c,x.1 with
  | .sl q,y=>AV.sl false q y
  |c,y=> .v c y)::pc r x.2
 | .sl q,x=>[.sl false q x]
 | .int k,x=>[.v (.int k) x]
 | .bool,x=>[.v .bool x]
 | .str,x=>[.v .str x]
def X2.mk(m:Nat→Nat):(l:List (AP ⊕ List AP))→X2.V l→List (AV ⊕ List AV)
 |[],_=>[]
 | .inl p::l,x=> .inl (p.mk m x.1)::X2.mk m l x.2
 | .inr q::l,x=> .inr (Xs.mk m q x.1)::X2.mk m l x.2
def XP.mk(m:Nat→Nat):(p:XP)→p.V→XV
 | .c p,x=> .c (p.mk m x)
 | .agg l,x=> .agg (Xs.mk m l x)
 | .row r,x=> .agg (pc r x)
 | .Me l,x=> .Me (X2.mk m l x)
def BP.mk(m:Nat→Nat):(p:BP)→p.V→Bx
 | .mem l,x=> .mem (Xs.mk m l x)
 | .sl d r,x=> .sl d r x
 | .gone,_=> .dead
def G5.mk(m:Nat→Nat):(l:List (Nat×XP))→G5.V l→List XV→List XV
 |[],_,tm=>tm
 |(i,p)::l,x,tm=>G5.mk m l x.2 (tm.set i (p.mk m x.1))
def Jl.mk(m:Nat→Nat):(l:List BP)→Jl.V l→List Bx
 |[],_=>[]
 |p::l,x=>p.mk m x.1::Jl.mk m l x.2
def BZ.st(s:BZ)(n:Nat)(x:s.V):St:=
 { tm:=G5.mk id s.D3 x.1 (List.replicate n (.c .undef)),bx:=Jl.mk id s.Gz x.2 }
abbrev Pc:=List (Option Nat)
def Pc.put(m:Pc)(i b:Nat):Option Pc:=
 match m[i]? with
 |some none=>if m.contains (some b)then none else some (m.set i (some b))
 |some (some b')=>if b' =b then some m else none
 |none=>none
def ax:Pc→List Nat→List Nat→Option Pc
 |m,[],[]=>some m
 |m,i::is,b::bs=>(m.put i b).bind fun m=>ax m is bs
 |_,_,_=>none
def AP.Nl(N:Nat)(m:Pc):AP→AV→Option Pc
 | .ref i,.ref b []=>m.put i b
 | .ref i,.nil=>m.put i (N+i)
 | .ref _,_=>none
 | .j0 i sz,.ref b [s]=>if s.sz=sz then m.put i b else none
 | .j0 _ _,_=>none
 | .ptr i j,.IL b j' =>if j=j' then m.put i b else none
 | .ptr _ _,_=>none
 | .fn f KZ,.fn g bs=>if f=g then ax m KZ bs else none
 | .fn _ _,_=>none
 | .nil,.nil=>some m
 | .nil,_=>none
 |_,_=>some m
def Xs.Nl(N:Nat):Pc→List AP→List AV→Option Pc
 |m,[],[]=>some m
 |m,p::l,x::xs=>(p.Nl N m x).bind fun m=>Xs.Nl N m l xs
 |_,_,_=>none
def X2.Nl(N:Nat):Pc→List (AP ⊕ List AP)→List (AV ⊕ List AV)→Option Pc
 |m,[],[]=>some m
 |m,.inl p::l,.inl x::xs=>(p.Nl N m x).bind fun m=>X2.Nl N m l xs
 |m,.inr p::l,.inr x::xs=>(Xs.Nl N m p x).bind fun m=>X2.Nl N m l xs
 |_,_,_=>none
def XP.Nl(N:Nat)(m:Pc):XP→XV→Option Pc
 | .c p,.c x=>p.Nl N m x
 | .agg l,.agg xs=>Xs.Nl N m l xs
 | .row _,.agg _=>some m
 | .Me l,.Me xs=>X2.Nl N m l xs
 |_,_=>none
def G5.Nl(N:Nat)(tm:List XV):Pc→List (Nat×XP)→Option Pc
 |m,[]=>some m
 |m,(i,p)::l=>
  match tm[i]? with
  |some x=>(p.Nl N m x).bind fun m=>G5.Nl N tm m l
  |none=>none
def Jl.Nl(N:Nat)(bx:List Bx):Nat→Pc→List BP→Option Pc
 |_,m,[]=>some m
 |i,m,.mem l::ps=>
  match m[i]? with
  |some (some b)=>
   match bx[b]? with
   |some (.mem cs)=>(Xs.Nl N m l cs).bind fun m=>Jl.Nl N bx (i+1) m ps
   |_=>none
  |_=>none
 |i,m,.sl _ _::ps=>
  match m[i]? with
  |some (some _)=>Jl.Nl N bx (i+1) m ps
  |_=>none
 |i,m,.gone::ps=>Jl.Nl N bx (i+1) m ps
def Cz(bx:List Bx):Pc→List Bx
 |[]=>bx
 |some b::m=>Cz (bx.set b .dead) m
 |none::m=>Cz bx m
def ZB.pU:(l:List Ty)→List ((r:Ty)×r.D)→Option (ZB l)
 |[],[]=>some ()
 |r::l,q::qs=>(QO (β:=Ty.D) q.1 r q.2).bind fun a=>(ZB.pU l qs).map fun b=>(a,b)
 |_,_=>none
def ZB.qT(bx:List Bx):(l:List Ty)→List Nat→Option (ZB l)
 |[],[]=>some ()
 |r::l,b::bs=>(match bx[b]? with
  |some (.mem cs)=>IA bx r cs
  |_=>none).bind fun a=>(ZB.qT bx l bs).map fun c=>(a,c)
 |_,_=>none
def AP.get(bx:List Bx):(p:AP)→AV→Option p.V
 | .qv f rs,x=>match x with
  | .qv g rows=>if f=g then ZB.pU rs rows else none
  | .fn g bs=>if f=g then ZB.qT bx rs bs else none
  |_=>none
 | .v t,x=>if t.scalar then Mr bx t x else none
 | .sl false r,x=>Mr bx (.sl r) x
 | .sl true r,x=>match x with
  | .sl true q y=>QO (β:=fun r=>List r.D) q r y
  | .nil=>some []
  |_=>none
 | .mr r,x=>match x with
  | .PM _ q y 0=>QO (β:=Ty.D) q r y
  | .IL b 0=>match bx[b]? with
   |some (.mem cs)=>IA bx r cs
   |_=>none
  | .JK b p i sz 0=>match bx[b]? with
   |some (.sl _ q rows)=>(G_ q rows p).bind fun s=>if sz=s.1.n then QO (β:=Ty.D) s.1 r (rowAt s.1 s.2 i)else none
   |_=>none
  |_=>none
 | .nil,_=>some ()
 | .ref _,_=>some ()
 | .ptr _ _,_=>some ()
 | .fn _ _,_=>some ()
 | .any,_=>some ()
 | .j0 _ _,x=>match x with
  | .ref _ [s]=>some (s.i,s.j)
  |_=>none
def Xs.get(bx:List Bx):(l:List AP)→List AV→Option (Xs.V l)
 |[],[]=>some ()
 |p::l,x::xs=>(p.get bx x).bind fun a=>(Xs.get bx l xs).map fun b=>(a,b)
 |_,_=>none
def X2.get(bx:List Bx):(l:List (AP ⊕ List AP))→List (AV ⊕ List AV)→Option (X2.V l)
 |[],[]=>some ()
 | .inl p::l,.inl x::xs=>(p.get bx x).bind fun a=>(X2.get bx l xs).map fun b=>(a,b)
 | .inr p::l,.inr x::xs=>(Xs.get bx p x).bind fun a=>(X2.get bx l xs).map fun b=>(a,b)
 |_,_=>none
def XP.get(bx:List Bx):(p:XP)→XV→Option p.V
 | .c p,.c x=>p.get bx x
 | .agg l,.agg xs=>Xs.get bx l xs
 | .row r,.agg xs=>IA bx r xs
 | .Me l,.Me xs=>X2.get bx l xs
 |_,_=>none
def G5.get(bx:List Bx)(tm:List XV):(l:List (Nat×XP))→Option (G5.V l)
 |[]=>some ()
 |(i,p)::l=>
  match tm[i]? with
  |some x=>(p.get bx x).bind fun a=>(G5.get bx tm l).map fun b=>(a,b)
  |none=>none
def Jl.get(bx bk:List Bx):(m:Pc)→(l:List BP)→Option (Jl.V l)
 |_,[]=>some ()
 |some b::m,.mem l::ps=>
  match bx[b]? with
  |some (.mem cs)=>(Xs.get bk l cs).bind fun a=>(Jl.get bx bk m ps).map fun c=>(a,c)
  |_=>none
 |some b::m,.sl d r::ps=>
  match bx[b]? with
  |some (.sl d' q rows)=>if 1≤d∧d≤d' then(QO (β:=fun r=>List r.D) q r rows).bind fun a=>(Jl.get bx bk m ps).map fun c=>(a,c)else none
  |_=>none
 |_::m,.gone::ps=>(Jl.get bx bk m ps).map fun c=>((),c)
 |_,_=>none
def BZ.fit(s:BZ)(N:Nat)(m0:Pc)(tm:List XV)(bx:List Bx):Option (s.V×Pc):=
 (G5.Nl N tm m0 s.D3).bind fun m=>(Jl.Nl N bx 0 m s.Gz).bind fun m=>
  let bk:=Cz bx m
  (G5.get bk tm s.D3).bind fun a=>(Jl.get bx bk m s.Gz).map fun c=>((a,c),m)
def BP.opened:BP→Bx
 | .sl d r=> .sl (d+1) r []
 |_=> .dead
def BZ.opens(s:BZ)(bx:List Bx):List Bx:=bx++s.Gz.map BP.opened
def BZ.m0(s:BZ):Pc:=List.replicate s.Gz.length none
structure QN where
 ins:BZ
 outs:BZ
 g:ins.V→Option outs.V
def YW(m:Pc)(n:Nat)(i:Nat):Nat:=
 match m[i]? with
 |some (some b)=>b
 |_=>n+(i-m.length)
def Zt(Jf:Nat→Nat):Nat→(l:List BP)→Jl.V l→List Bx→List Bx
 |_,[],_,bx=>bx
 |i,p::l,x,bx=>Zt Jf (i+1) l x.2 (if Jf i<bx.length then bx.set (Jf i) (p.mk Jf x.1)else bx++[p.mk Jf x.1])
def eH:(l:List (Nat×XP))→G5.V l→(Nat→Nat)→XV
 |(_,p)::_,x,Jf=>p.mk Jf x.1
 |[],_,_=> .c .undef
def Dw:Nat:=2^36
section ops
variable{Y:Type}
abbrev K(Y:Type):=XV→St→Option Y
def St.new(σ:St)(b:Bx):St:={ σ with bx:=σ.bx++[b] }
def AFQ(x:Bool)(a b:XV)(σ:St)(k:K Y):Option Y:=cond x (k a σ) (k b σ)
def fc(op:BinOp)(κ:IntKind)(a b:Int)(k:AV→Option Y):Option Y:=
 match op with
 | .add=>k (.v (.int κ) (κ.wrap (a+b)))
 | .sub=>k (.v (.int κ) (κ.wrap (a-b)))
 | .mul=>k (.v (.int κ) (κ.wrap (a*b)))
 | .quo=>if b=0 then none else k (.v (.int κ) (κ.wrap (a.tdiv b)))
 | .rem=>if b=0 then none else k (.v (.int κ) (a.tmod b))
 | .and=>k (.v (.int κ) (κ.wrap (BitVec.ofInt κ.bits a &&& BitVec.ofInt κ.bits b).toNat))
 | .or=>k (.v (.int κ) (κ.wrap (BitVec.ofInt κ.bits a ||| BitVec.ofInt κ.bits b).toNat))
 | .xor=>k (.v (.int κ) (κ.wrap (BitVec.ofInt κ.bits a ^^^ BitVec.ofInt κ.bits b).toNat))
 | .andNot=>k (.v (.int κ) (κ.wrap (BitVec.ofInt κ.bits a &&& ~~~BitVec.ofInt κ.bits b).toNat))
 | .eql=>k (.v .bool (a==b))
 | .neq=>k (.v .bool (a !=b))
 | .lss=>k (.v .bool (decide (a<b)))
 | .leq=>k (.v .bool (decide (a≤b)))
 | .gtr=>k (.v .bool (decide (a>b)))
 | .geq=>k (.v .bool (decide (a≥b)))
 |_=>none
def Yy(op:BinOp)(κ:IntKind)(a b:Int)(k:AV→Option Y):Option Y:=
 if b<0 then none else
 match op with
 | .shl=>k (.v (.int κ) (κ.wrap (a*2^min b.toNat κ.bits)))
 | .shr=>k (.v (.int κ) (a.fdiv (2^min b.toNat κ.bits)))
 |_=>none
def iQ(op:BinOp)(a b:ACD)(k:AV→Option Y):Option Y:=
 match op with
 | .add=>if a.length+b.length≤Dw then k (.v .str (a++b))else none
 | .eql=>k (.v .bool (a==b))
 | .neq=>k (.v .bool (!(a==b)))
 | .lss=>k (.v .bool (Op.bytesLess a b))
 | .leq=>k (.v .bool (Op.bytesLess a b||a==b))
 | .gtr=>k (.v .bool (!(Op.bytesLess a b||a==b)))
 | .geq=>k (.v .bool (!Op.bytesLess a b))
 |_=>none
def pj:TD→AV→AV→Option Bool
 | .int _,.v (.int j) a,.v (.int k) b=>if j=k then some (a==b)else none
 | .bool,.v .bool a,.v .bool b=>some (a==b)
 | .str,.v .str a,.v .str b=>some (a==b)
 |_,_,_=>none
def Kp(T:Jp):Nat→List ADE→List AV→List AV→Option Bool
 |_,[],[],[]=>some true
 |i,(o,t)::fs,x::l,z::m=>
  if o=i then
   match T.get t with
   |some ti=>match pj ti.desc x z with
    |some p=>(Kp T (i+1) fs l m).map fun r=>p&&r
    |none=>none
   |none=>none
  else none
 |_,_,_,_=>none
def Jp.fields(T:Jp)(t:Nat):Option (List ADE):=
 match(T.get t).map TI.desc with
 |some (.st fs)=>some fs
 |_=>none
def wN(T:Jp)(t:Nat)(op:BinOp)(a b:XV)(k:AV→Option Y):Option Y:=
 match a,b with
 | .c (.v (.int j) x),.c (.v (.int j') y)=>
  match op with
  | .shl| .shr=>Yy op j x y k
  |_=>if j=j' then fc op j x y k else none
 | .c (.v .str x),.c (.v .str y)=>iQ op x y k
 | .c (.v .bool x),.c (.v .bool y)=>
  match T.get t with
  |some ti=>match ti.desc with
   | .bool=>match op with
    | .eql=>k (.v .bool (x==y))
    | .neq=>k (.v .bool (!(x==y)))
    |_=>none
   |_=>none
  |none=>none
 | .agg l,.agg m=>
  match op,(T.fields t).bind fun fs=>Kp T 0 fs l m with
  | .eql,some r=>k (.v .bool r)
  | .neq,some r=>k (.v .bool (!r))
  |_,_=>none
 |_,_=>none
def unX(op:UnOp)(a:XV)(k:AV→Option Y):Option Y:=
 match op,a with
 | .not,.c (.v .bool x)=>k (.v .bool (!x))
 | .neg,.c (.v (.int j) x)=>k (.v (.int j) (j.wrap (0-x)))
 |_,_=>none
def AAY(d b:Nat)(p:List WR)(s:WR):((t:Ty)×t.D)→AV
 |⟨.sl r,x⟩=>if d≤1 then .sl true r x else .ref b (p++[s])
 |⟨t,x⟩=>if t.scalar then .v t x else .undef
def yf(s:Bool):((t:Ty)×t.D)→AV
 |⟨.sl r,x⟩=> .sl s r x
 |⟨t,x⟩=>if t.scalar then .v t x else .undef
def dL(f:Nat→Option AV):Nat→Nat→Option (List AV)
 |_,0=>some []
 |j,n+1=>(f j).bind fun x=>(dL f (j+1) n).map fun l=>x::l
def JR(bx:List Bx):AV→Nat→Option AV
 | .IL b j,i=>
  match bx[b]? with
  |some (.mem cs)=>cs[j+i]?
  |_=>none
 | .JK b p r sz j,i=>
  match bx[b]? with
  |some (.sl d q rows)=>if p.length<d then(G_ q rows p).bind fun s=>if sz=s.1.n then(BO s.1 (j+i) (rowAt s.1 s.2 r)).map (AAY (d-p.length) b p ⟨r,sz,j+i⟩)else none else none
  |_=>none
 | .PM s r x j,i=>(BO r (j+i) x).map (yf s)
 |_,_=>none
def ln(T:Jp)(t:Nat)(σ:St)(a:XV):Option XV:=
 match a,T.get t with
 | .c a,some ti=>if ti.size=0 then none else if ti.desc.agg then(dL (JR σ.bx a) 0 ti.size).map .agg else(JR σ.bx a 0).map .c
 |_,_=>none
def dW(d:Nat)(t:Ty)(x:AV)(bx:List Bx):Option (t.D×List Bx×Nat):=
 match x with
 | .v u y=>(QO (β:=Ty.D) u t y).map fun y=>(y,bx,d)
 | .nil=>match t with
  | .sl _=>some ([],bx,d)
  |_=>none
 | .sl true r y=>match t with
  | .sl q=>(QO (β:=fun r=>List r.D) r q y).map fun y=>(y,bx,1)
  |_=>none
 | .ref b []=>match t with
  | .sl q=>
   match bx[b]? with
   |some (.sl d' r y)=>(QO (β:=fun r=>List r.D) r q y).map fun y=>(y,bx.set b .dead,min d (d'+1))
   |_=>none
  |_=>none
 | .win b [] off n=>match t with
  | .sl q=>
   match bx[b]? with
   |some (.sl d' r y)=>(QO (β:=fun r=>List r.D) r q ((y.drop off).take n)).map fun y=>(y,bx.set b .dead,min d (d'+1))
   |_=>none
  |_=>none
 |_=>none
def cellsIn(d:Nat):(r:Ty)→List AV→List Bx→Option (r.D×List Bx×Nat)
 | .unit,[],bx=>some ((),bx,d)
 | .cons c r,x::l,bx=>(dW d c x bx).bind fun a=>(cellsIn a.2.2 r l a.2.1).map fun b=>((a.1,b.1),b.2)
 |_,_,_=>none
def AD5(d:Nat)(r:Ty)(x:XV)(bx:List Bx):Option (r.D×List Bx×Nat):=
 match x with
 | .agg l=>cellsIn d r l bx
 | .c x=>dW d r x bx
 |_=>none
def Jm(b:Nat):AV→AV
 | .ref b' (s::p)=>if b' =b then .undef else .ref b' (s::p)
 | .win b' (s::p) i n=>if b' =b then .undef else .win b' (s::p) i n
 | .JK b' (s::p) i sz j=>if b' =b then .undef else .JK b' (s::p) i sz j
 |x=>x
def vA(b:Nat):XV→XV
 | .c x=> .c (Jm b x)
 | .agg l=> .agg (l.map (Jm b))
 | .Me l=> .Me (l.map fun| .inl x=> .inl (Jm b x)| .inr q=> .inr (q.map (Jm b)))
def AAQ(b:Nat):Bx→Bx
 | .mem cs=> .mem (cs.map (Jm b))
 |x=>x
def St.AAB(b:Nat)(σ:St):St:={ tm:=σ.tm.map (vA b),bx:=σ.bx.map (AAQ b) }
def XF(cs:List AV):Nat→List AV→Option (List AV)
 |_,[]=>some cs
 |j,x::l=>if j<cs.length then XF (cs.set j x) (j+1) l else none
def pT(d:Nat)(r:Ty)(old:r.D)(j:Nat)(x:XV)(bx:List Bx):Option (r.D×List Bx×Nat):=
 match x with
 | .agg l=>if j=0 then cellsIn d r l bx else none
 | .c x=>
  match BO r j old with
  |some ⟨t,_⟩=>(dW d t x bx).bind fun a=>(EB r j old t a.1).map fun row=>(row,a.2)
  |none=>none
 |_=>none
def XV.plain:XV→Bool
 | .c (.v _ _)=>true
 |_=>false
def gZ(σ:St)(a:XV)(x:XV):Option St:=
 match a with
 | .c (.IL b j)=>
  match σ.bx[b]? with
  |some (.mem cs)=>(XF cs j x.cells).map fun cs=>{ σ with bx:=σ.bx.set b (.mem cs) }
  |_=>none
 | .c (.JK b p i sz j)=>
  match σ.bx[b]? with
  |some (.sl d r rows)=>if p.length<d then
   (G_ r rows p).bind fun s=>if sz=s.1.n then(pT (d-p.length) s.1 (rowAt s.1 s.2 i) j x (σ.bx.set b .dead)).bind fun w=>
    (pX r rows p s.1 (s.2.set i w.1)).map fun rows=>
     let σ':St:={ σ with bx:=w.2.1.set b (.sl (w.2.2+p.length) r rows) }
     if x.plain then σ' else σ'.AAB b
    else none
   else none
  |_=>none
 |_=>none
def aB(σ:St)(a x:XV):Option (St×XV):=
 match a,x with
 | .c (.JK b _ _ _ _),.c (.win b' (s::p') off n)=>
  if b' =b then
   match σ.bx[b]? with
   |some (.sl d r rows)=>(G_ r rows (s::p')).map fun q=>({ σ with bx:=σ.bx.set b (.sl (min d (p'.length+1)) r rows) },.c (.sl true q.1 ((q.2.drop off).take n)))
   |_=>none
  else none
 |_,_=>some (σ,x)
def LX(σ:St)(a x:XV):Option St:=(aB σ a x).bind fun q=>gZ q.1 a q.2
def nf(bx:List Bx)(x:AV):Option ((r:Ty)×(List r.D×List Bx×Nat)):=
 match x with
 | .v .str s=>some ⟨.int .u8,s.map (fun c=>(c.toNat:Int)),bx,9⟩
 | .sl s r rows=>if r.flat then some ⟨r,rows,bx,9⟩else if s then some ⟨r,rows,bx,1⟩else none
 | .ref b []=>
  match bx[b]? with
  |some (.sl d r rows)=>if r.flat then some ⟨r,rows,bx,9⟩else some ⟨r,rows,bx.set b .dead,d⟩
  |_=>none
 | .ref b p=>
  match bx[b]? with
  |some (.sl _ r rows)=>(G_ r rows p).bind fun q=>if q.1.flat then some ⟨q.1,q.2,bx,9⟩else none
  |_=>none
 | .win b p off n=>
  match bx[b]? with
  |some (.sl _ r rows)=>(G_ r rows p).bind fun q=>if q.1.flat then some ⟨q.1,(q.2.drop off).take n,bx,9⟩else none
  |_=>none
 |_=>none
def ni(bx:List Bx)(x:AV):Option ((r:Ty)×(List r.D×List Bx×Nat)):=
 match x with
 | .ref b []=>
  match bx[b]? with
  |some (.sl d r rows)=>some ⟨r,rows,bx.set b .dead,d⟩
  |_=>none
 | .win b [] off n=>
  match bx[b]? with
  |some (.sl d r rows)=>some ⟨r,(rows.drop off).take n,bx.set b .dead,d⟩
  |_=>none
 |_=>none
def Jp.elem(T:Jp)(t:Nat):Option TI:=
 match(T.get t).map TI.desc with
 |some (.sl e)=>T.get e
 |_=>none
def Jp.ND(T:Jp)(t:Nat)(r:Ty):Bool:=
 match T.elem t with
 |some ti=>decide (ti.size=r.n)&&decide (ti.bytes≤512)&&decide (ti.row=some r)
 |none=>false
def Jp.isStr(T:Jp)(t:Nat):Bool:=
 match(T.get t).map TI.desc with
 |some .str=>true
 |_=>false
def Jp.AKU(T:Jp)(t:Nat):Bool:=
 match(T.get t).map TI.desc with
 |some (.sl _)=>true
 |_=>false
def eC(T:Jp)(ts:Array TypeId)(σ:St)(a x:XV)(k:K Y):Option Y:=
 match ts[0]?,ts[1]? with
 |some t,some u=>
  if T.AKU u||T.isStr u then
   match a,x with
   | .c .nil,.c y=>
    (nf σ.bx y).bind fun s=>if T.ND t s.1 then
     if s.2.1.length≤Dw then k (.c (.ref s.2.2.1.length [])) { σ with bx:=s.2.2.1++[.sl s.2.2.2 s.1 s.2.1] }else none
     else none
   | .c a,.c y=>
    (ni σ.bx a).bind fun d=>if T.ND t d.1 then(nf d.2.2.1 y).bind fun s=>
     (QO (β:=fun r=>List r.D) s.1 d.1 s.2.1).bind fun rows=>
      if d.2.1.length+rows.length≤Dw then
       k (.c (.ref s.2.2.1.length [])) { σ with bx:=s.2.2.1++[.sl (min d.2.2.2 s.2.2.2) d.1 (d.2.1++rows)] }
      else none
     else none
   |_,_=>none
  else none
 |_,_=>none
def lD(T:Jp)(ts:Array TypeId)(σ:St)(x:XV)(k:K Y):Option Y:=
 match ts[0]?,x with
 |some t,.c (.win b [] off n)=>
  match σ.bx[b]? with
  |some (.sl d r rows)=>if T.ND t r&&(r.flat&&decide (0<r.n))then k (.c .undef) { σ with bx:=σ.bx.set b (.sl d r ((rows.take off++List.replicate n r.z)++rows.drop (off+n))) }else none
  |_=>none
 |_,_=>none
def cq:XV→Option Int
 | .c (.v (.int _) n)=>some n
 |_=>none
def N1(len:Nat)(lo hi:Option XV)(k:Nat→Nat→Option Y):Option Y:=
 let h:Option Int:=match hi with
  |none=>some (len:Int)
  |some x=>cq x
 let l:Option Int:=match lo with
  |none=>some 0
  |some x=>cq x
 match l,h with
 |some l,some h=>if 0≤l∧l≤h∧h≤(len:Int)then k l.toNat h.toNat else none
 |_,_=>none
def kE(T:Jp)(t:Nat)(σ:St)(x:XV)(lo hi:Option XV)(k:K Y):Option Y:=
 match x with
 | .c (.v .str s)=>if T.isStr t then N1 s.length lo hi fun l h=>k (.c (.v .str ((s.drop l).take (h-l)))) σ else none
 | .c (.sl s r rows)=>if T.ND t r then N1 rows.length lo hi fun l h=>k (.c (.sl s r ((rows.drop l).take (h-l)))) σ else none
 | .c (.ref b p)=>
  match NN σ.bx (.ref b p)with
  |some q=>if T.ND t q.1 then N1 q.2.length lo hi fun l h=>k (.c (.win b p l (h-l))) σ else none
  |none=>none
 |_=>none
def ky(σ:St)(T:Jp)(t:Nat)(x i:XV)(k:K Y):Option Y:=
 match x,cq i with
 | .c (.sl s r rows),some i=>if T.ND t r then(if 0≤i∧i<(rows.length:Int)then k (.c (.PM s r (rowAt r rows i.toNat) 0)) σ else none)else none
 | .c (.ref b p),some i=>
  match NN σ.bx (.ref b p)with
  |some q=>if T.ND t q.1 then(if 0≤i∧i<(q.2.length:Int)then k (.c (.JK b p i.toNat q.1.n 0)) σ else none)else none
  |none=>none
 | .c (.win b p off n),some i=>
  match NN σ.bx (.ref b p)with
  |some q=>if T.ND t q.1 then(if 0≤i∧i<(n:Int)then k (.c (.JK b p (off+i.toNat) q.1.n 0)) σ else none)else none
  |none=>none
 |_,_=>none
def uy(T:Jp)(t:Nat)(x:XV)(f:Nat):Option XV:=
 match T.get t with
 |some ⟨_,_,.st fs,_⟩=>
  match fs[f]? with
  |some (o,_)=>match x with
   | .c (.IL b j)=>some (.c (.IL b (j+o)))
   | .c (.JK b p i sz j)=>some (.c (.JK b p i sz (j+o)))
   | .c (.PM s r y j)=>some (.c (.PM s r y (j+o)))
   |_=>none
  |none=>none
 |_=>none
def AFL(T:Jp)(t:Nat)(x:XV)(f:Nat):Option XV:=
 match T.get t,x with
 |some ⟨_,_,.st fs,_⟩,.agg l=>
  match fs[f]? with
  |some (o,u)=>
   match T.get u with
   |some ti=>if ti.desc.agg then some (.agg ((l.drop o).take ti.size))else(l[o]?).map .c
   |none=>none
  |none=>none
 |_,_=>none
def sX(T:Jp)(src dst:Nat)(σ:St)(x:XV)(k:K Y):Option Y:=
 match(T.get src).map TI.desc,(T.get dst).map TI.desc,x with
 |some (.int _),some (.int κ),.c (.v (.int _) n)=>k (.c (.v (.int κ) (κ.wrap n))) σ
 |some .str,some .str,.c (.v .str s)=>k (.c (.v .str s)) σ
 |some .str,some (.sl e),.c (.v .str s)=>
  match(T.get e).map TI.desc with
  |some (.int .u8)=>if s.length≤Dw then k (.c (.ref σ.bx.length [])) (σ.new (.sl 9 (.int .u8) (s.map fun c=>(c.toNat:Int))))else none
  |_=>none
 |some (.sl e),some .str,.c x=>
  match(T.get e).map TI.desc,Mr σ.bx (.sl (.int .u8)) x with
  |some (.int .u8),some l=>k (.c (.v .str (l.map fun n:Int=>UInt8.ofNat n.toNat))) σ
  |_,_=>none
 |_,_,_=>none
def su(T:Jp)(t:Nat)(σ:St)(l c:XV)(k:K Y):Option Y:=
 match(T.get t).map TI.desc,cq l,cq c with
 |some (.sl e),some n,some m=>
  match Jp.iT T e with
  |some r=>if T.ND t r then(if 0≤n∧n≤m∧m≤(Dw:Int)then k (.c (.ref σ.bx.length [])) (σ.new (.sl 9 r (List.replicate n.toNat r.z)))else none)else none
  |none=>none
 |_,_,_=>none
def fp(T:Jp)(fs:List ADE):List AV→List (Nat×XV)→Option (List AV)
 |cs,[]=>some cs
 |cs,(i,x)::l=>
  match fs[i]? with
  |some (o,u)=>
   match T.get u with
   |some ti=>if x.cells.length=ti.size∧ti.size≠0∧x.cells.all AV.known=true then(XF cs o x.cells).bind fun cs=>fp T fs cs l else none
   |none=>none
  |none=>none
def Yv(r:Ty):Nat→Nat→List (Nat×XV)→List Bx→Nat→Option (List r.D×List Bx×Nat)
 |_,0,[],bx,d=>some ([],bx,d)
 |i,n+1,(j,x)::l,bx,d=>
  if i=j then(AD5 d r x bx).bind fun a=>(Yv r (i+1) n l a.2.1 a.2.2).map fun b=>(a.1::b.1,b.2)else none
 |i,n+1,[],bx,d=>(Yv r (i+1) n [] bx d).map fun b=>(r.z::b.1,b.2)
 |_,0,_::_,_,_=>none
def Q0(T:Jp)(t n:Nat)(parts:List (Nat×XV))(σ:St)(k:K Y):Option Y:=
 match(T.get t).map TI.desc with
 |some (.sl e)=>
  match Jp.iT T e with
  |some r=>if T.ND t r&&decide (n≤1024)&&decide (r.n≤1024)then(Yv r 0 n parts σ.bx 9).bind fun a=>k (.c (.ref a.2.1.length [])) { σ with bx:=a.2.1++[.sl a.2.2 r a.1] }else none
  |none=>none
 |_=>none
def WT(T:Jp)(t:Nat)(σ:St)(x i:XV)(k:K Y):Option Y:=
 match x,cq i with
 | .c (.v .str s),some i=>if T.isStr t then if 0≤i∧i<(s.length:Int)then k (.c (.v (.int .u8) ((s.getD i.toNat 0).toNat:Int))) σ else none else none
 |_,_=>none
def pq(x:XV)(i:Nat):Option XV:=
 match x with
 | .Me l=>match l[i]? with
  |some (.inl a)=>some (.c a)
  |some (.inr q)=>some (.agg q)
  |none=>none
 |_=>none
def Gq(m:Pc):AV→AV
 | .ref b (s::p)=>if m.contains (some b)then .undef else .ref b (s::p)
 | .win b (s::p) i n=>if m.contains (some b)then .undef else .win b (s::p) i n
 | .JK b (s::p) i sz j=>if m.contains (some b)then .undef else .JK b (s::p) i sz j
 |x=>x
def UJ(m:Pc):XV→XV
 | .c x=> .c (Gq m x)
 | .agg l=> .agg (l.map (Gq m))
 | .Me l=> .Me (l.map fun| .inl x=> .inl (Gq m x)| .inr q=> .inr (q.map (Gq m)))
def AEI(m:Pc):Bx→Bx
 | .mem cs=> .mem (cs.map (Gq m))
 |x=>x
def St.ZR(m:Pc)(σ:St):St:=
 match m with
 |[]=>σ
 |_::_=>{ tm:=σ.tm.map (UJ m),bx:=σ.bx.map (AEI m) }
def mQ(c:QN)(args:List XV)(σ:St)(k:K Y):Option Y:=
 if args.length=c.ins.D3.length then
  match c.ins.fit σ.bx.length c.ins.m0 args (c.ins.opens σ.bx)with
  |some (v,m)=>(c.g v).bind fun u=>
   let Jf:=YW m (c.ins.opens σ.bx).length
   let σ1:=({ σ with bx:=c.ins.opens σ.bx }:St).ZR m
   k (eH c.outs.D3 u.1 Jf) { σ1 with bx:=Zt Jf 0 c.outs.Gz u.2 (Cz σ1.bx m) }
  |none=>none
 else none
def bN(σ:St)(x:XV)(k:K Y):Option Y:=
 match x with
 | .c (.win b [] off n)=>
  (ni σ.bx (.win b [] off n)).bind fun s=>k (.c (.ref s.2.2.1.length [])) { σ with bx:=s.2.2.1++[.sl s.2.2.2 s.1 s.2.1] }
 |x=>k x σ
def xQ(l:List XV):Option ABJ:=
 match l with
 |[]=>some []
 | .c (.IL b 0)::l=>(xQ l).map fun r=>b::r
 |_=>none
def tc(big:Bool)(a b:XV)(k:AV→Option Y):Option Y:=
 match a,b with
 | .c (.v (.int j) x),.c (.v (.int j') y)=>
  if j=j' then(if big then k (.v (.int j) (if y>x then y else x))else k (.v (.int j) (if y<x then y else x)))else none
 |_,_=>none
def Wz(T:Jp)(Γ:Nat→Option QN)(o:Oper)(σ:St)(k:K Y):Option Y:=
 match o.op with
 | .move x=>k (σ.ev x) σ
 | .assign x=>bN σ (σ.ev x) k
 | .pick c a b=>match σ.ev c with
  | .c (.v .bool x)=>AFQ x (σ.ev a) (σ.ev b) σ k
  |_=>none
 | .alloc t=>match Jp.iT T t with
  |some r=>k (.c (.IL σ.bx.length 0)) (σ.new (.mem (bX r)))
  |none=>none
 | .box t x=>match T.get t with
  |some ti=>if(σ.ev x).cells.length=ti.size∧ti.size≠0∧(σ.ev x).cells.all AV.known=true then k (.c (.IL σ.bx.length 0)) (σ.new (.mem (σ.ev x).cells))else none
  |none=>none
 | .build t parts=>match T.get t,Jp.iT T t with
  |some ⟨_,_,.st fs,_⟩,some r=>match fp T fs (bX r) (parts.toList.map fun q=>(q.1,σ.ev q.2))with
   |some cs=>k (.agg cs) σ
   |none=>none
  |_,_=>none
 | .buildSlice t n parts=>Q0 T t n (parts.toList.map fun q=>(q.1,σ.ev q.2)) σ k
 | .load t a=>match ln T t σ (σ.ev a)with
  |some x=>k x σ
  |none=>none
 | .store t a x=>match T.get t with
  |some ti=>if(σ.ev x).cells.length=ti.size∧ti.size≠0∧(σ.ev x).cells.all AV.known=true then(match LX σ (σ.ev a) (σ.ev x)with
   |some σ=>k (.c .undef) σ
   |none=>none)else none
  |none=>none
 | .nilCheck x=>match σ.ev x with
  | .c (.IL b j)=>k (.c (.IL b j)) σ
  | .c (.JK b p i sz j)=>k (.c (.JK b p i sz j)) σ
  | .c (.PM s r y j)=>k (.c (.PM s r y j)) σ
  | .c (.fn f KZ)=>k (.c (.fn f KZ)) σ
  |_=>none
 | .binOp op t x y _=>wN T t op (σ.ev x) (σ.ev y) fun a=>k (.c a) σ
 | .unOp op _ x=>unX op (σ.ev x) fun a=>k (.c a) σ
 | .convert s d x=>sX T s d σ (σ.ev x) k
 | .makeFunc (.func f) first KZ=>if first.size=0 then(match xQ (KZ.toList.map σ.ev)with
  |some bs=>k (.c (.fn f bs)) σ
  |none=>none)else none
 | .makeSlice t l c=>su T t σ (σ.ev l) (σ.ev c) k
 | .slice t x lo hi none=>kE T t σ (σ.ev x) (lo.map σ.ev) (hi.map σ.ev) k
 | .fieldAddr t x f=>match uy T t (σ.ev x) f with
  |some y=>k y σ
  |none=>none
 | .field t x f=>match AFL T t (σ.ev x) f with
  |some y=>k y σ
  |none=>none
 | .indexAddr t x i=>ky σ T t (σ.ev x) (σ.ev i) k
 | .index t x i=>WT T t σ (σ.ev x) (σ.ev i) k
 | .extract x i=>match pq (σ.ev x) i with
  |some y=>k y σ
  |none=>none
 | .call { callee:= .value f,args,.. }=>match σ.ev f with
  | .c (.fn f KZ)=>match Γ f with
   |some c=>mQ c (args.toList.map σ.ev++KZ.map fun b=> .c (.IL b 0)) σ k
   |none=>none
  | .c (.qv f rows)=>match Γ f with
   |some c=>mQ c (args.toList.map σ.ev++rows.map fun q=> .c (.PM false q.1 q.2 0)) σ k
   |none=>none
  |_=>none
 | .call { callee:= .builtin .len,args,argTypes }=>match args.toList.map σ.ev,argTypes[0]? with
  |[.c (.v .str s)],some t=>if T.isStr t then k (.c (.v (.int .i64) (s.length:Int))) σ else none
  |[.c x],some t=>if T.AKU t then(match lenOf σ.bx x with
   |some n=>k (.c (.v (.int .i64) (n:Int))) σ
   |none=>none)else none
  |_,_=>none
 | .call { callee:= .builtin .append,args,argTypes }=>match args.toList.map σ.ev with
  |[a,x]=>eC T argTypes σ a x k
  |_=>none
 | .call { callee:= .builtin .clear,args,argTypes }=>match args.toList.map σ.ev with
  |[x]=>lD T argTypes σ x k
  |_=>none
 | .call { callee:= .builtin .max,args,.. }=>match args.toList.map σ.ev with
  |[a,x]=>tc true a x fun a=>k (.c a) σ
  |_=>none
 | .call { callee:= .builtin .min,args,.. }=>match args.toList.map σ.ev with
  |[a,x]=>tc false a x fun a=>k (.c a) σ
  |_=>none
 |_=>none
end ops
end Go.Fw
end
section
namespace Go.Fw
section
variable{Y:Type}
structure aW where
 T:Jp
 Γ:Nat→Option QN
 hint:Nat→List Nat
def h_(hint:ABJ):XV→Bool
 | .c (.IL b _)=>hint.contains b
 | .c (.JK b _ _ _ _)=>hint.contains b
 | .c (.PM _ _ _ _)=>true
 |_=>false
def jE(hint:ABJ)(σ:St):Op→Bool
 | .assign x=>match σ.ev x with
  | .c (.win _ [] _ _)=>false
  |_=>true
 | .move _| .pick .. | .nilCheck _| .binOp .. | .unOp .. | .fieldAddr .. | .field .. | .indexAddr .. | .index .. | .extract .. | .build .. =>true
 | .slice _ _ _ _ none=>true
 | .load _ a=>h_ hint (σ.ev a)
 | .call { callee:= .builtin .len,.. }=>true
 | .call { callee:= .builtin .max,.. }=>true
 | .call { callee:= .builtin .min,.. }=>true
 |_=>false
def KS(Γ:Nat→Option QN)(σ:St):Op→List Nat
 | .store _ a _=>match σ.ev a with
  | .c (.IL b _)=>[b]
  | .c (.JK b _ _ _ _)=>[b]
  |_=>[]
 | .call { callee:= .value f,args,.. }=>match σ.ev f with
  | .c (.fn f KZ)=>match Γ f with
   |some c=>match c.ins.fit σ.bx.length c.ins.m0 (args.toList.map σ.ev++KZ.map fun b=> .c (.IL b 0)) (c.ins.opens σ.bx)with
    |some (_,m)=>m.filterMap id
    |none=>[]
   |none=>[]
  | .c (.qv f rows)=>match Γ f with
   |some c=>match c.ins.fit σ.bx.length c.ins.m0 (args.toList.map σ.ev++rows.map fun q=> .c (.PM false q.1 q.2 0)) (c.ins.opens σ.bx)with
    |some (_,m)=>m.filterMap id
    |none=>[]
   |none=>[]
  |_=>[]
 | .call { callee:= .builtin .clear,args,.. }=>match args.toList.map σ.ev with
  |[.c (.win b _ _ _)]=>[b]
  |_=>[]
 |_=>[]
def tt:XV:= .c (.v .bool true)
def ff:XV:= .c (.v .bool false)
def AAr(C:aW)(ops:Array Oper)(o:Oper)(kn:St→Option Y)(σ:St):Option Y:=
 match o.guard with
 |none=>Wz C.T C.Γ o σ fun x σ' =>kn (σ'.put o.dst x)
 |some (j,want)=>
  match(ops[j]?).bind (·.dst)with
  |some t=>
   match σ.tm[t]? with
   |some (.c (.v .bool b))=>
    let yes (σ:St):Option Y:=Wz C.T C.Γ o σ fun x σ' =>kn (σ'.put o.dst x)
    let no (σ:St):Option Y:=kn (σ.put o.dst (.Me []))
    cond b ((if want then yes else no) (σ.put (some t) tt)) ((if want then no else yes) (σ.put (some t) ff))
   |some (.Me [])=>kn (σ.put o.dst (.Me []))
   |_=>none
  |none=>none
def ua(C:aW)(all:Array Oper):List Oper→(St→Option Y)→St→Option Y
 |[],kn,σ=>kn σ
 |o::rest,kn,σ=>AAr C all o (fun σ' =>ua C all rest kn σ') σ
def ABA(C:aW)(ops:Array Oper)(i:Nat)(kn:St→Option Y)(σ:St):Option Y:=
 match ops[i]? with
 |none=>none
 |some o=>AAr C ops o kn σ
def j7(bx:List Bx)(b:Nat):Bool:=
 match bx[b]? with
 |some .dead=>true
 |some _=>false
 |none=>true
def idle(ops:Array Oper)(σ:St)(o:Oper):Bool:=
 match o.guard with
 |none=>false
 |some (j,want)=>
  match(ops[j]?).bind (·.dst)with
  |some t=>
   match σ.tm[t]? with
   |some (.c (.v .bool b))=>b !=want
   |some (.Me [])=>true
   |_=>false
  |none=>false
def pA(hint:ABJ)(ops:Array Oper)(listed:Array Bool)(σ:St)(i:Nat):Bool:=
 match ops[i]? with
 |some o=>(jE hint σ o.op||idle ops σ o)&&Region.free .any ops listed i
 |none=>false
def uO(f:Nat→List Bool→Option Y):List Nat→List Bool→Option Y
 |[],_=>none
 |[i],ω=>f i ω
 |i::_::_,[]=>f i []
 |i::_::_,true::ω=>f i ω
 |_::j::r,false::ω=>uO f (j::r) ω
def Tr(C:aW)(hint:ABJ)(ops:Array Oper)(kn:List Bool→St→Option Y):Nat→Array Bool→List Bool→St→Option Y
 |fuel,listed,ω,σ=>
  if hint.all (fun b=> !j7 σ.bx b)then
   match Region.ready .any ops listed with
   |[]=>kn ω σ
   |rs=>
    match fuel with
    |0=>none
    |fuel+1=>
     match rs.find? (pA hint ops listed σ)with
     |some i=>ABA C ops i (fun σ' =>Tr C hint ops kn fuel (listed.setIfInBounds i true) ω σ') σ
     |none=>uO (fun i ω=>
      match ops[i]? with
      |some o=>if(KS C.Γ σ o.op).all (fun b=> !hint.contains b)then ABA C ops i (fun σ' =>Tr C hint ops kn fuel (listed.setIfInBounds i true) ω σ') σ else none
      |none=>none) rs ω
  else none
def first:Code→Nat
 | .region id _ _=>id
 | .seq a _=>first a
 | .cond _ a _=>first a
 | .block _ a=>first a
 | .loop a=>first a
 | .scope a=>first a
 |_=>0
abbrev KN(Y:Type):=List Bool→St→Option Y
def run(C:aW)(J:Nat→St→Option Y):Code→KN Y→(Nat→KN Y)→KN Y→KN Y
 | .skip,kn,_,_,ω,σ=>kn ω σ
 | .region id ops draw,kn,_,_,ω,σ=>
  if draw then(if Region.noSelect ops then Tr C (C.hint id) ops kn ops.size (Array.replicate ops.size false) ω σ else none)else ua C ops ops.toList (kn ω) σ
 | .seq a b,kn,kx,kr,ω,σ=>run C J a (fun ω σ=>run C J b kn kx kr ω σ) kx kr ω σ
 | .cond (.tmp t) a b,kn,kx,kr,ω,σ=>
  match σ.tm[t]? with
  |some (.c (.v .bool x))=>cond x (run C J a kn kx kr ω (σ.put (some t) tt)) (run C J b kn kx kr ω (σ.put (some t) ff))
  |_=>none
 | .block id body,kn,kx,kr,ω,σ=>run C J body kn (fun j ω σ=>if j=id then kn ω σ else kx j ω σ) kr ω σ
 | .loop body,_,_,_,_,σ=>J (first body) σ
 | .exit id,_,kx,_,ω,σ=>kx id ω σ
 | .ret,_,_,kr,ω,σ=>kr ω σ
 |_,_,_,_,_,_=>none
def find(C:aW)(J:Nat→St→Option Y)(ℓ :Nat):Code→KN Y→(Nat→KN Y)→KN Y→Option (KN Y)
 | .seq a b,kn,kx,kr=>
  match find C J ℓ a (fun ω σ=>run C J b kn kx kr ω σ) kx kr with
  |some f=>some f
  |none=>find C J ℓ b kn kx kr
 | .cond _ a b,kn,kx,kr=>
  match find C J ℓ a kn kx kr with
  |some f=>some f
  |none=>find C J ℓ b kn kx kr
 | .block id body,kn,kx,kr=>find C J ℓ body kn (fun j ω σ=>if j=id then kn ω σ else kx j ω σ) kr
 | .loop body,_,kx,kr=>
  if first body= ℓ then some (fun ω σ=>run C J body (fun _ σ=>J ℓ σ) kx kr ω σ)else find C J ℓ body (fun _ σ=>J (first body) σ) kx kr
 |_,_,_,_=>none
def AF5(T:Jp)(σ:St):ResultVar→Option XV
 | .tmp t=>σ.tm[t]?
 | .cell a t=>match σ.tm[a]? with
  |some x=>ln T t σ x
  |none=>none
def wU:List XV→Option (List (AV ⊕ List AV))
 |[]=>some []
 | .c x::l=>(wU l).map fun r=> .inl x::r
 | .agg q::l=>(wU l).map fun r=> .inr q::r
 |_=>none
def jG(T:Jp)(σ:St)(rs:List ResultVar):Option XV:=
 match rs.mapM (AF5 T σ)with
 |some [x]=>some x
 |some l=>(wU l).map .Me
 |none=>none
def TC:Nat→Nat→List BP→Pc
 |_,_,[]=>[]
 |i,n,p::l=>(match p with| .gone=>none|_=>if i<n then some i else none)::TC (i+1) n l
def AV.oB(b:Nat)(r:Ty)(rows:List r.D):AV→AV
 | .ref k []=>if k=b then .sl true r rows else .ref k []
 |x=>x
def XV.oB(b:Nat)(r:Ty)(rows:List r.D):XV→XV
 | .c x=> .c (x.oB b r rows)
 |x=>x
def Bx.oB(b:Nat)(r:Ty)(rows:List r.D):Bx→Bx
 | .mem cs=> .mem (cs.map (AV.oB b r rows))
 |x=>x
def St.oB(b:Nat)(σ:St):St:=
 match σ.bx[b]? with
 |some (.sl _ r rows)=>{ tm:=σ.tm.map (XV.oB b r rows),bx:=(σ.bx.set b .dead).map (Bx.oB b r rows) }
 |_=>σ
def HC:List AP→List AV→St→St
 | .sl true _::l,.ref b []::xs,σ=>HC l xs (σ.oB b)
 |_::l,_::xs,σ=>HC l xs σ
 |_,_,σ=>σ
def bP:List (AP ⊕ List AP)→List (AV ⊕ List AV)→St→St
 | .inl p::l,.inl x::xs,σ=>bP l xs (HC [p] [x] σ)
 | .inr p::l,.inr x::xs,σ=>bP l xs (HC p x σ)
 |_::l,_::xs,σ=>bP l xs σ
 |_,_,σ=>σ
def AWC:XP→XV→St→St
 | .c p,.c x,σ=>HC [p] [x] σ
 | .agg l,.agg xs,σ=>HC l xs σ
 | .Me l,.Me xs,σ=>bP l xs σ
 |_,_,σ=>σ
def kN(l:List (Nat×XP))(x:XV)(σ:St):St:=
 match l with
 |(_,p)::_=>AWC p x σ
 |[]=>σ
def rT(T:Jp)(c:QN)(rs:List ResultVar)(σ:St):Option c.outs.V:=
 (jG T σ rs).bind fun x=>
  let σ:=kN c.outs.D3 x σ
  (jG T σ rs).bind fun x=>(c.outs.fit σ.bx.length (TC 0 c.ins.Gz.length c.outs.Gz) [x] (c.outs.opens σ.bx)).map fun q=>q.1
def DO(C:aW)(c:QN)(fn:Func)(J:Nat→St→Option c.outs.V)(ω:List Bool)(v:c.ins.V):Option c.outs.V:=
 match fn.body with
 |some code=>run C J code (fun _=>rT C.T c fn.results.toList) (fun _ _ _=>none) (fun _=>rT C.T c fn.results.toList) ω (c.ins.st fn.ntmps v)
 |none=>none
def HZ(C:aW)(c:QN)(fn:Func)(J:Nat→St→Option c.outs.V)(ℓ :Nat)(ω:List Bool)(σ:St):Option c.outs.V:=
 match fn.body with
 |some code=>
  match find C J ℓ code (fun _=>rT C.T c fn.results.toList) (fun _ _ _=>none) (fun _=>rT C.T c fn.results.toList)with
  |some f=>f ω σ
  |none=>none
 |none=>none
def Pr(bs:List BP):List (Nat×XP)→St→St
 |[],σ=>σ
 |(i,.c (.sl true r))::l,σ=>
  match σ.tm[i]? with
  |some (.c x)=>Pr bs l (HC [.sl true r] [x] σ)
  |_=>Pr bs l σ
 |(i,.c (.ptr k _))::l,σ=>
  match bs[k]?,σ.tm[i]? with
  |some (.mem ps),some (.c (.IL b _))=>
   match σ.bx[b]? with
   |some (.mem cs)=>Pr bs l (HC ps cs σ)
   |_=>Pr bs l σ
  |_,_=>Pr bs l σ
 |_::l,σ=>Pr bs l σ
def AV.s8:AV→Bool
 | .ref _ _| .win _ _ _ _| .sl _ _ _| .nil=>true
 |_=>false
def St.forget(b j:Nat)(σ:St):St:=
 match σ.bx[b]? with
 |some (.mem cs)=>
  match cs[j]? with
  |some x=>if x.s8 then{ σ with bx:=σ.bx.set b (.mem (cs.set j (.ref σ.bx.length [])))++[.dead] }else σ
  |none=>σ
 |_=>σ
def Xc(bs:List BP)(b:Nat):Nat→List AP→St→St
 |_,[],σ=>σ
 |j,p::l,σ=>Xc bs b (j+1) l (match p with
  | .ref q=>match bs[q]? with
   |some .gone=>σ.forget b j
   |_=>σ
  |_=>σ)
def dS(bs:List BP):List (Nat×XP)→St→St
 |[],σ=>σ
 |(i,p)::l,σ=>dS bs l (match p with
  | .c (.ptr k _)=>match bs[k]?,σ.tm[i]? with
   |some (.mem ps),some (.c (.IL b _))=>Xc bs b 0 ps σ
   |_,_=>σ
  |_=>σ)
def jump(nb:Nat)(s:BZ)(f:s.V→Option Y)(σ:St):Option Y:=
 if nb≤s.Gz.length then
  let σ:=dS s.Gz s.D3 (Pr s.Gz s.D3 σ)
  (s.fit σ.bx.length (TC 0 nb s.Gz) σ.tm (s.opens σ.bx)).bind fun q=>f q.1
 else none
end
end Go.Fw
end
section
namespace Go.Fw
def Bc(w:World)(b o:Nat)(cs:List Value):Prop:= ∀j v,cs[j]? =some v→w.cell? ⟨b,o+j,none⟩=some v
def Rd(w:World)(B:Nat→Prop):(t:Ty)→List Value→t.D→Prop
 | .int k,vs,x=>vs=[.int k x]
 | .bool,vs,x=>vs=[.bool x]
 | .str,vs,x=>vs=[.string ⟨x.toArray⟩]
 | .sl r,vs,x=> ∃a cap,vs=[.slice a (List.length x) cap]∧List.length x≤cap∧(List.length x=0∨ ∃b o,a=some ⟨b,o,none⟩∧B b∧
  ∀(i:Nat) (y:r.D),x[i]? =some y→ ∃cs,cs.length=r.n∧Bc w b (o+i*r.n) cs∧Rd w B r cs y)
 | .unit,vs,_=>vs=[]
 | .cons c r,vs,x=> ∃v l,vs=v::l∧Rd w B c [v] x.1∧Rd w B r l x.2
def xM(fr:ADE)(n:Nat):Prop:= ∀i,i<n→ ¬(fr.1≤i∧i<fr.2)
def mk:Ty→Nat
 | .int .u8=>0
 |_=>1
def Ow(w:World)(S:Nat→Prop):(d:Nat)→(t:Ty)→List Value→t.D→List Nat→Prop
 |0,.sl r,vs,x,F=>Rd w S (.sl r) vs x∧F=[]
 |d+1,.sl r,vs,x,F=> ∃a cap,vs=[.slice a (List.length x) cap]∧List.length x≤cap∧
  ((
   cap=0∧F=[])∨ ∃b o arr ty fr Fs,a=some ⟨b,o,none⟩∧w.heap[b]? =some (.cells arr ty fr)∧o+cap*r.n≤arr.size∧xM fr (arr.size+mk r)∧
   F=b::List.flatten Fs∧Fs.length=List.length x∧
   ∀(i:Nat) (y:r.D) (G:ABJ),x[i]? =some y→Fs[i]? =some G→ ∃cs,cs.length=r.n∧Bc w b (o+i*r.n) cs∧Ow w S d r cs y G)
 |d,.cons c r,vs,x,F=> ∃v l F1 F2,vs=v::l∧F=F1++F2∧Ow w S d c [v] x.1 F1∧Ow w S d r l x.2 F2
 |_,.unit,vs,_,F=>vs=[]∧F=[]
 |_,.int k,vs,x,F=>vs=[.int k x]∧F=[]
 |_,.bool,vs,x,F=>vs=[.bool x]∧F=[]
 |_,.str,vs,x,F=>vs=[.string ⟨x.toArray⟩]∧F=[]
theorem lX{w B}:∀{t:Ty} {vs x},Rd w B t vs x→vs.length=t.n
 | .int _,_,_,h=>by simp only[Rd]at h;subst h;rfl
 | .bool,_,_,h=>by simp only[Rd]at h;subst h;rfl
 | .str,_,_,h=>by simp only[Rd]at h;subst h;rfl
 | .sl _,_,_,h=>by simp only[Rd]at h;obtain⟨_,_,h,_⟩:=h;subst h;rfl
 | .unit,_,_,h=>by simp only[Rd]at h;subst h;rfl
 | .cons _ _,_,_,h=>by
  simp only[Rd]at h;obtain⟨_,_,rfl,_,h⟩:=h;simp[Ty.n,lX h]
theorem Xo{w S}:∀{d} {t:Ty} {vs x F},Ow w S d t vs x F→vs.length=t.n
 |_,.int _,_,_,_,h=>by simp only[Ow]at h;rw[h.1];rfl
 |_,.bool,_,_,_,h=>by simp only[Ow]at h;rw[h.1];rfl
 |_,.str,_,_,_,h=>by simp only[Ow]at h;rw[h.1];rfl
 |0,.sl _,_,_,_,h=>by grind[Ow,lX]
 |_+1,.sl _,_,_,_,h=>by simp only[Ow]at h;obtain⟨_,_,h,_⟩:=h;subst h;rfl
 |_,.unit,_,_,_,h=>by simp only[Ow]at h;rw[h.1];rfl
 |_,.cons _ _,_,_,_,h=>by
  simp only[Ow]at h;obtain⟨_,_,_,_,rfl,_,_,h⟩:=h;simp[Ty.n,Xo h]
theorem Bc.of_block{w w':World}{b o:Nat}{cs:List Value}(h:Bc w b o cs)(hb:w'.heap[b]? =w.heap[b]?):Bc w' b o cs:=
 fun j v hj=>(World.cell?_of_block (a:=⟨b,o+j,none⟩) hb).trans (h j v hj)
theorem Fo{w w':World}{B B':Nat→Prop}(hB:∀b,B b→B' b)(hw:∀b,B b→w'.heap[b]? =w.heap[b]?):∀{t:Ty} {vs x},Rd w B t vs x→Rd w' B' t vs x
 | .int _,_,_,h=>by grind[Rd]
 | .bool,_,_,h=>by grind[Rd]
 | .str,_,_,h=>by grind[Rd]
 | .unit,_,_,h=>by grind[Rd]
 | .sl r,_,_,h=>by
  simp only[Rd]at h⊢;obtain⟨a,cap,h1,h2,h3⟩:=h;refine⟨a,cap,h1,h2,h3.imp id ?_⟩
  rintro⟨b,o,ha,hb,h⟩
  refine⟨b,o,ha,hB b hb,fun i y hy=> ?_⟩;obtain⟨cs,hl,hc,hr⟩:=h i y hy;exact⟨cs,hl,hc.of_block (hw b hb),Fo hB hw hr⟩
 | .cons _ _,_,_,h=>by
  simp only[Rd]at h⊢;obtain⟨v,l,h1,h2,h3⟩:=h;exact⟨v,l,h1,Fo hB hw h2,Fo hB hw h3⟩
theorem Eb{w w':World}{S S':Nat→Prop}(hS:∀b,S b→S' b)(hw:∀b,S b→w'.heap[b]? =w.heap[b]?):
  ∀{d} {t:Ty} {vs x F},(∀b∈F,w'.heap[b]? =w.heap[b]?)→Ow w S d t vs x F→Ow w' S' d t vs x F
 |_,.int _,_,_,_,_,h=>by grind[Ow]
 |_,.bool,_,_,_,_,h=>by grind[Ow]
 |_,.str,_,_,_,_,h=>by grind[Ow]
 |_,.unit,_,_,_,_,h=>by grind[Ow]
 |0,.sl r,_,_,_,_,h=>by
  grind[Ow,Fo]
 |d+1,.sl r,_,x,F,hF,h=>by
  simp only[Ow]at h⊢;obtain⟨a,cap,h1,h2,h3⟩:=h;refine⟨a,cap,h1,h2,h3.imp id ?_⟩
  rintro⟨b,o,arr,ty,fr,Fs,ha,hb,h4,h5,h6,h7,h⟩
  subst h6;have hbb:=hF b (by simp);refine⟨b,o,arr,ty,fr,Fs,ha,hbb.trans hb,h4,h5,rfl,h7,fun i y G hy hG=> ?_⟩;obtain⟨cs,hl,hc,hr⟩:=h i y G hy hG;refine⟨cs,hl,hc.of_block hbb,Eb hS hw (fun c hc=>hF c ?_) hr⟩;grind[List.mem_cons_of_mem,List.mem_flatten,List.mem_of_getElem?]
 |_,.cons _ _,_,_,_,hF,h=>by
  simp only[Ow]at h⊢;obtain⟨v,l,F1,F2,h1,h2,h3,h4⟩:=h;subst h2;exact⟨v,l,F1,F2,h1,rfl,Eb hS hw (fun c hc=>hF c (by simp[hc])) h3,Eb hS hw (fun c hc=>hF c (by simp[hc])) h4⟩
theorem Xh{w:World}{S:Nat→Prop}:∀{d} {t:Ty} {vs x F},Ow w S d t vs x F→Rd w (fun b=>S b∨b∈F) t vs x
 |_,.int _,_,_,_,h=>by grind[Ow,Rd]
 |_,.bool,_,_,_,h=>by grind[Ow,Rd]
 |_,.str,_,_,_,h=>by grind[Ow,Rd]
 |_,.unit,_,_,_,h=>by grind[Ow,Rd]
 |0,.sl r,_,_,_,h=>by
  simp only[Ow]at h;simp_all
 |d+1,.sl r,_,x,F,h=>by
  simp only[Ow]at h;simp only[Rd];obtain⟨a,cap,h1,h2,h3⟩:=h;refine⟨a,cap,h1,h2,?_⟩;rcases h3 with⟨hc,_⟩|⟨b,o,arr,ty,fr,Fs,ha,hb,h4,h5,h6,h7,h⟩
  ·omega
  ·refine .inr ⟨b,o,ha,.inr (by simp[h6]),fun i y hy=> ?_⟩
   have hi:i<Fs.length:=by
    grind
   obtain⟨cs,hl,hc,hr⟩:=h i y Fs[i] hy (ALR hi);refine⟨cs,hl,hc,Fo ?_ (fun _ _=>rfl) (Xh hr)⟩;grind[List.mem_cons_of_mem,List.mem_flatten,List.getElem_mem]
 |_,.cons _ _,_,_,_,h=>by
  simp only[Ow]at h;simp only[Rd];obtain⟨v,l,F1,F2,h1,h2,h3,h4⟩:=h;subst h2;refine⟨v,l,h1,Fo ?_ (fun _ _=>rfl) (Xh h3),Fo ?_ (fun _ _=>rfl) (Xh h4)⟩
  all_goals grind
theorem J9{w:World}{S:Nat→Prop}:∀{d d'} {t:Ty} {vs x F},d≤d'→Ow w S d' t vs x F→
  ∃F1 F2,F.Perm (F1++F2)∧Ow w (fun b=>S b∨b∈F2) d t vs x F1
 |_,_,.int _,_,_,_,_,h=>by simp only[Ow]at h⊢;simp_all
 |_,_,.bool,_,_,_,_,h=>by simp only[Ow]at h⊢;simp_all
 |_,_,.str,_,_,_,_,h=>by simp only[Ow]at h⊢;simp_all
 |_,_,.unit,_,_,_,_,h=>by simp only[Ow]at h⊢;simp_all
 |0,d',.sl r,_,x,F,_,h=>by
  refine⟨[],F,by simp,?_⟩;simp only[Ow];exact⟨Xh h,trivial⟩
 |d+1,0,.sl r,_,x,F,hd,h=>by omega
 |d+1,d'+1,.sl r,_,x,F,hd,h=>by
  simp only[Ow]at h⊢;obtain⟨a,cap,h1,h2,h3⟩:=h;rcases h3 with⟨hc,hF⟩|⟨b,o,arr,ty,fr,Fs,ha,hb,h4,h5,h6,h7,h⟩
  ·simp_all
  ·have key:∀(n:Nat) (Fs:List ABJ) (y:List r.D),Fs.length=n→y.length=n→(∀(i:Nat) (z:r.D) (G:ABJ),y[i]? =some z→Fs[i]? =some G→ ∃cs,cs.length=r.n∧Bc w b (o+i*r.n) cs∧Ow w S d' r cs z G)→
     ∃(Gs:List ABJ) (F2:ABJ),Fs.flatten.Perm (Gs.flatten++F2)∧Gs.length=n∧ ∀(i:Nat) (z:r.D) (G:ABJ),y[i]? =some z→Gs[i]? =some G→ ∃cs,cs.length=r.n∧Bc w b (o+i*r.n) cs∧Ow w (fun b=>S b∨b∈F2) d r cs z G:=by
    intro n
    induction n with
    |zero=>
     simp_all
    |succ n ih=>
     intro Fs y hF hy hh;obtain⟨Fs',G0,rfl⟩:∃l a,Fs=l++[a]:=⟨Fs.dropLast,Fs.getLast (by grind),(List.dropLast_concat_getLast _).symm⟩;obtain⟨y',z0,rfl⟩:∃l a,y=l++[a]:=⟨y.dropLast,y.getLast (by grind),(List.dropLast_concat_getLast _).symm⟩;simp only[AOs,ANL,AQO]at hF hy;obtain⟨Gs,F2,hp,hl,hg⟩:=ih Fs' y' (by omega) (by omega) (fun i z G hz hG=>hh i z G
      (by grind) (by grind))
     obtain⟨cs,cX,hc,ho⟩:=hh n z0 G0 (by simp_all) (by simp_all);obtain⟨H1,H2,hhp,hho⟩:=J9 (d:=d) (d':=d') (by omega) ho;refine⟨Gs++[H1],F2++H2,?_,by simp[hl],?_⟩
     ·grind
     ·intro i z G hz hG
      by_cases hi:i<n
      ·rw[AND (by omega)]at hz hG
       obtain⟨cs,e1,e2,e3⟩:=hg i z G hz hG;exact⟨cs,e1,e2,Eb (by grind) (fun _ _=>rfl) (fun _ _=>rfl) e3⟩
      ·have:i=n:=by
        grind
       subst this;rw[ANg (by omega)]at hz hG;simp[show i-y'.length=0 by omega,show i-Gs.length=0 by omega]at hz hG;subst hz hG;exact⟨cs,cX,hc,Eb (by grind) (fun _ _=>rfl) (fun _ _=>rfl) hho⟩
   obtain⟨Gs,F2,hp,hl,hg⟩:=key _ Fs x h7 rfl h;refine⟨b::Gs.flatten,F2,?_,a,cap,h1,h2,.inr ⟨b,o,arr,ty,fr,Gs,ha,hb,h4,h5,rfl,hl,hg⟩⟩;simp_all
 |d,d',.cons _ _,_,_,_,hd,h=>by
  simp only[Ow]at h⊢;obtain⟨v,l,F1,F2,h1,h2,h3,h4⟩:=h;obtain⟨A1,A2,pa,oa⟩:=J9 hd h3;obtain⟨B1,B2,pb,ob⟩:=J9 hd h4;refine⟨A1++B1,A2++B2,?_,v,l,A1,B1,h1,rfl,Eb (by grind) (fun _ _=>rfl) (fun _ _=>rfl) oa,Eb (by grind) (fun _ _=>rfl) (fun _ _=>rfl) ob⟩;grind
def RB(w:World):(t:Ty)→List Value→t.D→Nat→Prop
 | .sl r,vs,x,c=> ∃b o len cap,vs=[.slice (some ⟨b,o,none⟩) len cap]∧0<List.length x∧
  (c=b∨ ∃(i:Nat) (y:r.D) (cs:List Value),x[i]? =some y∧cs.length=r.n∧Bc w b (o+i*r.n) cs∧RB w r cs y c)
 | .cons c r,vs,x,d=> ∃v l,vs=v::l∧(RB w c [v] x.1 d∨RB w r l x.2 d)
 |_,_,_,_=>False
theorem Bc.unique{w:World}{b o:Nat}{cs ds:List Value}(h:Bc w b o cs)(k:Bc w b o ds)(hl:cs.length=ds.length):cs=ds:=by
 apply List.ext_getElem hl;intro i h1 h2;have e1:=h i _ (ALR h1);have e2:=k i _ (ALR h2);simp_all
theorem tq{w:World}{B:Nat→Prop}{c:Nat}:∀{t:Ty} {vs x},Rd w B t vs x→RB w t vs x c→B c
 | .int _,_,_,_,h=>by simp[RB]at h
 | .bool,_,_,_,h=>by simp[RB]at h
 | .str,_,_,_,h=>by simp[RB]at h
 | .unit,_,_,_,h=>by simp[RB]at h
 | .sl r,_,x,h,k=>by
  simp only[Rd]at h;simp only[RB]at k;obtain⟨a,cap,rfl,_,h⟩:=h;obtain⟨b,o,len,cap',e,hl,k⟩:=k;simp only[AQY,Value.slice.injEq,ATS]at e;obtain⟨rfl,rfl,rfl⟩:=e;rcases h with h|⟨b',o',e,hb,h⟩
  ·omega
  simp only[ALt,Addr.mk.injEq,ATS]at e;obtain⟨rfl,rfl⟩:=e;rcases k with rfl|⟨i,y,cs,hy,cX,hca,k⟩
  ·omega
  ·obtain⟨ds,d1,d2,d3⟩:=h i y hy
   have:=hca.unique d2 (by omega);subst this;exact tq d3 k
 | .cons _ _,_,_,h,k=>by
  simp only[Rd]at h;simp only[RB]at k;obtain⟨v,l,rfl,h1,h2⟩:=h;obtain⟨v',l',e,k⟩:=k;cases e;exact k.elim (tq h1) (tq h2)
theorem nq{w w':World}{c:Nat}:∀{t:Ty} {vs x},(∀d,RB w t vs x d→w'.heap[d]? =w.heap[d]?)→RB w t vs x c→RB w' t vs x c
 | .int _,_,_,_,h=>by simp[RB]at h
 | .bool,_,_,_,h=>by simp[RB]at h
 | .str,_,_,_,h=>by simp[RB]at h
 | .unit,_,_,_,h=>by simp[RB]at h
 | .sl r,_,x,h,k=>by
  simp only[RB]at h k⊢;obtain⟨b,o,len,cap,e,hl,k⟩:=k;refine⟨b,o,len,cap,e,hl,?_⟩;rcases k with rfl|⟨i,y,cs,hy,cX,hca,k⟩
  ·omega
  ·have hb:=h b ⟨b,o,len,cap,e,hl,.inl rfl⟩
   exact .inr ⟨i,y,cs,hy,cX,hca.of_block hb,nq (fun d hd=>h d ⟨b,o,len,cap,e,hl,.inr ⟨i,y,cs,hy,cX,hca,hd⟩⟩) k⟩
 | .cons _ _,_,_,h,k=>by
  simp only[RB]at h k⊢;obtain⟨v,l,e,k⟩:=k;refine⟨v,l,e,k.elim (fun k=> .inl (nq (fun d hd=>h d ⟨v,l,e,.inl hd⟩) k)) (fun k=> .inr (nq (fun d hd=>h d ⟨v,l,e,.inr hd⟩) k))⟩
end Go.Fw
end
section
namespace Go.Fw
def Ca{α β:Type}(R:α→β→Prop):List α→List β→Prop
 |[],[]=>True
 |a::l,b::m=>R a b∧Ca R l m
 |_,_=>False
theorem Ca.len{α β:Type}{R:α→β→Prop}:∀{l:List α} {m:List β},Ca R l m→l.length=m.length
 |[],[],_=>rfl
 |_::_,_::_,h=>by simp[Ca.len h.2]
theorem Ca.get{α β:Type}{R:α→β→Prop}:∀{l:List α} {m:List β} {i:Nat} {a:α},Ca R l m→l[i]? =some a→ ∃b,m[i]? =some b∧R a b
 |_::_,_::_,0,a,h,e=>by simp at e;subst e;exact⟨_,rfl,h.1⟩
 |_::_,_::_,i+1,a,h,e=>by
  obtain⟨b,hb,hr⟩:=Ca.get (i:=i) h.2 (by simpa using e);simp_all
 |[],[],_,_,_,e=>by simp at e
theorem Ca.imp{α β:Type}{R S:α→β→Prop}(h:∀a b,R a b→S a b):∀{l:List α} {m:List β},Ca R l m→Ca S l m
 |[],[],_=>trivial
 |_::_,_::_,k=>⟨h _ _ k.1,Ca.imp h k.2⟩
structure Env where
 H0:Nat→Nat
 H3:Nat→Value
 T:Nat→Prop
 S:Nat→Prop
def Iw(w:World):Value→List WR→Option Value
 |h,[]=>some h
 | .slice (some a) _ _,s::p=>
  match w.cell? ⟨a.block,a.off+s.i*s.sz+s.j,none⟩with
  |some h=>Iw w h p
  |none=>none
 |_,_::_=>none
def DF:(r:Ty)→List r.D→List WR→Prop
 |_,_,[]=>True
 |r,rows,s::p=>s.i<rows.length∧s.sz=r.n∧
  match BO r s.j (rowAt r rows s.i)with
  |some ⟨.sl q,x⟩=>DF q x p
  |_=>False
def U4(sz off n:Nat)(a:Option Addr)(cap:Nat):Value:=
 .slice (if cap=off then a else a.map (·.add (off*sz))) n (cap-off)
def isSlice:Value→Bool
 | .slice .. =>true
 |_=>false
def cC:Value→Bool
 | .pointer (some ⟨_,_,none⟩)=>true
 |_=>false
def RA(E:Env)(w:World)(q:(r:Ty)×r.D)(p:Value):Prop:= ∃bb o cs,p= .pointer (some ⟨bb,o,none⟩)∧E.T bb∧cs.length=q.1.n∧Bc w bb o cs∧Rd w E.T q.1 cs q.2
def VR(E:Env)(w:World)(vw:List Bx):AV→Value→Prop
 | .v t x,v=>t.scalar=true∧Rd w (fun _=>False) t [v] x
 | .sl s r x,v=>Rd w (if s then E.S else E.T) (.sl r) [v] x
 | .nil,v=>v= .slice none 0 0
 | .ref b p,v=>isSlice v=true∧match vw[b]? with
  |some (.sl _ r rows)=>DF r rows p∧(∃q,G_ r rows p=some q)∧Iw w (E.H3 b) p=some v
  |some _=>True
  |none=>False
 | .win b p off n,v=>isSlice v=true∧match vw[b]? with
  |some (.sl _ r rows)=>DF r rows p∧ ∃q ys a len cap,G_ r rows p=some ⟨q,ys⟩∧off+n≤List.length ys∧Iw w (E.H3 b) p=some (.slice a len cap)∧v=U4 q.n off n a cap
  |some _=>True
  |none=>False
 | .IL b j,v=>b<vw.length∧v= .pointer (some ⟨E.H0 b,j,none⟩)
 | .JK b p i sz j,v=>cC v=true∧match vw[b]? with
  |some (.sl _ r rows)=>DF r rows p∧ ∃q ys bb o len cap,G_ r rows p=some ⟨q,ys⟩∧i<List.length ys∧Iw w (E.H3 b) p=some (.slice (some ⟨bb,o,none⟩) len cap)∧v= .pointer (some ⟨bb,o+i*sz+j,none⟩)
  |some _=>True
  |none=>False
 | .PM s r x j,v=> ∃bb o cs,v= .pointer (some ⟨bb,o+j,none⟩)∧(if s then E.S else E.T) bb∧cs.length=r.n∧Bc w bb o cs∧Rd w (if s then E.S else E.T) r cs x
 | .fn f KZ,v=>(∀b∈KZ,b<vw.length)∧v= .func (.func f) #[] (KZ.map fun b=>Value.pointer (some ⟨E.H0 b,0,none⟩)).toArray
 | .qv f rows,v=> ∃ps:List Value,v= .func (.func f) #[] ps.toArray∧Ca (RA E w) rows ps
 | .yW,v=>v= .pointer none
 | .undef,_=>True
def iy(E:Env)(w:World)(vw:List Bx)(l:List AV)(vs:List Value):Prop:=Ca (VR E w vw) l vs
def TR(E:Env)(w:World)(vw:List Bx):AV ⊕ List AV→Value→Prop
 | .inl x,v=>VR E w vw x v
 | .inr q,v=> ∃vs,v= .agg vs∧iy E w vw q vs.toList
def XR(E:Env)(w:World)(vw:List Bx):XV→Value→Prop
 | .c x,v=>VR E w vw x v
 | .agg l,v=> ∃vs,v= .agg vs∧iy E w vw l vs.toList
 | .Me l,v=> ∃vs,v= .tuple vs∧Ca (TR E w vw) l vs.toList
def py(E:Env)(w:World)(vw:List Bx)(k:Nat):Bx→List Nat→Prop
 | .mem cs,F=>F=[E.H0 k]∧ ∃arr ty fr,w.heap[E.H0 k]? =some (.cells arr ty fr)∧xM fr (arr.size+1)∧iy E w vw cs arr.toList
 | .sl d r rows,F=>1≤d∧Ow w E.S d (.sl r) [E.H3 k] rows F
 | .dead,F=>F=[]
structure Sep (E:Env) (w:World) (F:ABJ):Prop where
 nodup:F.Nodup
 free:∀c∈F,¬E.T c
 lt:∀c∈F,c<w.heap.size
 st:∀c,E.S c→E.T c
 cf:∀c,E.T c→c<w.heap.size
def NG(E:Env)(w:World)(vw bx:List Bx)(Fs:List ABJ):Prop:=
 Fs.length=bx.length∧ ∀k B F,bx[k]? =some B→Fs[k]? =some F→py E w vw k B F
def DD(E:Env)(w:World)(vw bx:List Bx)(G:ABJ):Prop:=
 ∃Fs,NG E w vw bx Fs∧Sep E w (Fs.flatten++G)
structure Le (E E':Env):Prop where
 H0:E'.H0=E.H0
 H3:E'.H3=E.H3
 T:∀c,E.T c→E'.T c
 S:∀c,E.S c→E'.S c
 Tof:∀c,E'.T c→E.T c∨E'.S c
 Sof:∀c,E'.S c→E.S c∨ ¬E.T c
theorem Le.refl(E:Env):Le E E:=⟨rfl,rfl,fun _ h=>h,fun _ h=>h,fun _ h=> .inl h,fun _ h=> .inl h⟩
theorem Le.trans{E E' E'':Env}(h:Le E E')(k:Le E' E''):Le E E'':=
 ⟨k.H0.trans h.H0,k.H3.trans h.H3,fun c hc=>k.T c (h.T c hc),fun c hc=>k.S c (h.S c hc),
  fun c hc=>(k.Tof c hc).elim (fun h' =>(h.Tof c h').imp id (k.S c)) .inr,
  fun c hc=>(k.Sof c hc).elim (h.Sof c) (fun h' => .inr fun ht=>h' (h.T c ht))⟩
theorem eQ{w B}:∀{r:Ty} {cs x j t y},Rd w B r cs x→BO r j x=some ⟨t,y⟩→ ∃v,cs[j]? =some v∧Rd w B t [v] y
 | .cons c r,cs,x,0,t,y,h,e=>by
  simp only[Rd]at h;obtain⟨v,l,rfl,h1,h2⟩:=h;simp only[BO,ALt,AM4]at e;grind
 | .cons c r,cs,x,j+1,t,y,h,e=>by
  simp only[Rd]at h;obtain⟨v,l,rfl,h1,h2⟩:=h;simp only[BO]at e;obtain⟨u,hu,hr⟩:=eQ h2 e;simp_all
 | .int k,cs,x,0,t,y,h,e=>by
  simp only[BO,ALt,AM4]at e;obtain⟨rfl,e⟩:=e;obtain rfl:=AQj e;simp only[Rd]at h;subst h;exact⟨_,rfl,by rfl⟩
 | .bool,cs,x,0,t,y,h,e=>by
  simp only[BO,ALt,AM4]at e;obtain⟨rfl,e⟩:=e;obtain rfl:=AQj e;simp only[Rd]at h;subst h;exact⟨_,rfl,by rfl⟩
 | .str,cs,x,0,t,y,h,e=>by
  simp only[BO,ALt,AM4]at e;obtain⟨rfl,e⟩:=e;obtain rfl:=AQj e;simp only[Rd]at h;subst h;exact⟨_,rfl,by rfl⟩
 | .sl r,cs,x,0,t,y,h,e=>by
  simp only[BO,ALt,AM4]at e;obtain⟨rfl,e⟩:=e;obtain rfl:=AQj e;have h':=h;simp only[Rd]at h;grind
 | .unit,_,_,_,_,_,_,e=>by simp[BO]at e
 | .int _,_,_,_+1,_,_,_,e=>by simp[BO]at e
 | .bool,_,_,_+1,_,_,_,e=>by simp[BO]at e
 | .str,_,_,_+1,_,_,_,e=>by simp[BO]at e
 | .sl _,_,_,_+1,_,_,_,e=>by simp[BO]at e
theorem RC{r:Ty}{rows:List r.D}{i:Nat}(h:i<rows.length):rows[i]? =some (rowAt r rows i):=by
 simp[rowAt,h]
theorem ng{w:World}{B:Nat→Prop}:∀{p:List WR} {r:Ty} {h:Value} {rows:List r.D} {q:Ty} {ys:List q.D},
  Rd w B (.sl r) [h] rows→DF r rows p→G_ r rows p=some ⟨q,ys⟩→
  ∃h',(∀w':World,(∀b,B b→w'.heap[b]? =w.heap[b]?)→Iw w' h p=some h')∧Rd w B (.sl q) [h'] ys
 |[],r,h,rows,q,ys,hr,_,hg=>by
  simp only[G_,ALt,AM4]at hg;obtain⟨rfl,e⟩:=hg;obtain rfl:=AQj e;exact⟨h,fun w' _=>by rfl,hr⟩
 |s::p,r,h,rows,q,ys,hr,hp,hg=>by
  simp only[DF]at hp;obtain⟨hi,PN,hp⟩:=hp;simp only[G_]at hg;simp only[Rd]at hr;obtain⟨a,cap,hh,_,hr⟩:=hr;obtain rfl:=(List.cons.inj hh).1;rcases hr with hr|⟨b,o,rfl,hb,hr⟩
  ·omega
  obtain⟨cs,hl,hc,hrow⟩:=hr s.i _ (RC hi);split at hg
  ·rename_i q' x' iG
   rw[iG]at hp;obtain⟨v,hv,hrv⟩:=eQ hrow iG;obtain⟨h',hh',ZG⟩:=ng hrv hp hg;refine⟨h',fun w' rC=> ?_,ZG⟩;simp only[Iw];have Zl:w'.cell? ⟨b,o+s.i*s.sz+s.j,none⟩=some v:=by
    rw[PN];exact(World.cell?_of_block (a:=⟨b,_,none⟩) (rC b hb)).trans (hc _ _ hv)
   simp_all
  simp_all
theorem DA{w:World}{h:Value}:Iw w h []=some h:=by rfl
structure Sh (E:Env) (w:World) (vw:List Bx) (E':Env) (w':World) (vw':List Bx):Prop where
 len:vw.length≤vw'.length
 H0:∀b,b<vw.length→E'.H0 b=E.H0 b
 T:∀b,E.T b→E'.T b
 S:∀b,E.S b→E'.S b
 st:∀b,E.S b→E.T b
 heap:∀b,E.T b→w'.heap[b]? =w.heap[b]?
 box:∀b d r rows,b<vw.length→vw'[b]? =some (.sl d r rows)→ ∃d0 Rt,vw[b]? =some (.sl d0 r Rt)∧
  ∀p,DF r Rt p→ ∀q ys,G_ r Rt p=some ⟨q,ys⟩→DF r rows p∧(∃vX,G_ r rows p=some ⟨q,vX⟩∧List.length vX=List.length ys)∧
   ∀h,Iw w (E.H3 b) p=some h→Iw w' (E'.H3 b) p=some h
theorem PQ{α:Type}{l l':List α}{b:Nat}{x:α}(h:l.length≤l'.length)(e:l[b]? =some x):∃y,l'[b]? =some y:=
 ⟨l'[b]'(ATM (AMG.1 e).1 h),ALR _⟩
theorem GM{E E':Env}{w w':World}{vw vw':List Bx}(k:Sh E w vw E' w' vw'):∀{x:AV} {v:Value},VR E w vw x v→VR E' w' vw' x v:=by
 intro x v h;cases x with
 |v t x=>exact⟨h.1,Fo (fun _ h=>h) (fun _ h=>h.elim) h.2⟩
 |sl s r x=>
  simp only[VR]at h⊢;cases s with
  |false=>exact Fo k.T k.heap (by simp_all)
  |true=>exact Fo k.S (fun b hb=>k.heap b (k.st b hb)) (by simp_all)
 |nil=>exact h
 |ref b p=>
  simp only[VR]at h⊢;obtain⟨h0,h⟩:=h;refine⟨h0,?_⟩;cases e:vw[b]? with
  |none=>simp_all
  |some B=>
   rw[e]at h;have Lu:=(AMG.1 e).1;obtain⟨B',e'⟩:=PQ k.len e;rw[e'];cases B' with
   |mem cs=>trivial
   |dead=>trivial
   |sl d r rows=>
    obtain⟨d0,Rt,e0,hk⟩:=k.box b d r rows Lu e';grind
 |win b p off n=>
  simp only[VR]at h⊢;obtain⟨h0,h⟩:=h;refine⟨h0,?_⟩;cases e:vw[b]? with
  |none=>simp_all
  |some B=>
   rw[e]at h;have Lu:=(AMG.1 e).1;obtain⟨B',e'⟩:=PQ k.len e;rw[e'];cases B' with
   |mem cs=>trivial
   |dead=>trivial
   |sl d r rows=>
    obtain⟨d0,Rt,e0,hk⟩:=k.box b d r rows Lu e';grind
 |IL b j=>exact⟨ATM h.1 k.len,by rw[h.2,k.H0 b h.1]⟩
 |JK b p i sz j=>
  simp only[VR]at h⊢;obtain⟨h0,h⟩:=h;refine⟨h0,?_⟩;cases e:vw[b]? with
  |none=>simp_all
  |some B=>
   rw[e]at h;have Lu:=(AMG.1 e).1;obtain⟨B',e'⟩:=PQ k.len e;rw[e'];cases B' with
   |mem cs=>trivial
   |dead=>trivial
   |sl d r rows=>
    obtain⟨d0,Rt,e0,hk⟩:=k.box b d r rows Lu e';grind
 |PM s r x j=>
  simp only[VR]at h⊢;obtain⟨bb,o,cs,hv,hb,hl,hc,hr⟩:=h;cases s with
  |false=>exact⟨bb,o,cs,hv,k.T bb (by simp_all),hl,hc.of_block (k.heap bb (by simp_all)),Fo k.T k.heap (by simp_all)⟩
  |true=>exact⟨bb,o,cs,hv,k.S bb (by simp_all),hl,hc.of_block (k.heap bb (k.st bb (by simp_all))),Fo k.S (fun b hb=>k.heap b (k.st b hb)) (by simp_all)⟩
 |fn f KZ=>
  refine⟨fun b hb=>ATM (h.1 b hb) k.len,?_⟩;rw[h.2];congr 2;exact ATR fun b hb=>by rw[k.H0 b (h.1 b hb)]
 |qv f rows=>
  obtain⟨ps,hv,h⟩:=h;exact⟨ps,hv,h.imp fun q p ⟨bb,o,cs,h1,h2,h3,h4,h5⟩=>⟨bb,o,cs,h1,k.T bb h2,h3,h4.of_block (k.heap bb h2),Fo k.T k.heap h5⟩⟩
 |yW=>exact h
 |undef=>trivial
theorem PK{E E':Env}{w w':World}{vw vw':List Bx}(k:Sh E w vw E' w' vw'):∀{x:XV} {v:Value},XR E w vw x v→XR E' w' vw' x v
 | .c _,_,h=>GM k h
 | .agg _,_,⟨vs,hv,h⟩=>⟨vs,hv,h.imp fun _ _ h=>GM k h⟩
 | .Me l,_,⟨vs,hv,h⟩=>⟨vs,hv,h.imp fun
  | .inl _,_,h=>GM k h
  | .inr _,_,⟨ws,hw,h⟩=>⟨ws,hw,h.imp fun _ _ h=>GM k h⟩⟩
theorem Sh.refl{E:Env}{w:World}{vw:List Bx}(st:∀b,E.S b→E.T b):Sh E w vw E w vw:=
 ⟨AQE _,fun _ _=>rfl,fun _ h=>h,fun _ h=>h,st,fun _ _=>rfl,fun b d r rows _ h=>⟨d,rows,h,fun p hp q ys hg=>⟨hp,⟨ys,hg,rfl⟩,fun _ h=>h⟩⟩⟩
theorem Sh.trans{E E' E'':Env}{w w' w'':World}{vw vw' AUE:List Bx}(k:Sh E w vw E' w' vw')(k':Sh E' w' vw' E'' w'' AUE):Sh E w vw E'' w'' AUE where
 len:=AQ4 k.len k'.len
 H0:=fun b hb=>(k'.H0 b (ATM hb k.len)).trans (k.H0 b hb)
 T:=fun b h=>k'.T b (k.T b h)
 S:=fun b h=>k'.S b (k.S b h)
 st:=k.st
 heap:=fun b h=>(k'.heap b (k.T b h)).trans (k.heap b h)
 box:=fun b d r rows hb h=>by
  obtain⟨d1,AMl,h1,k1⟩:=k'.box b d r rows (ATM hb k.len) h;obtain⟨d0,Rt,h0,k0⟩:=k.box b d1 r AMl hb h1;grind
theorem vN{w w':World}{S:Nat→Prop}{d:Nat}{r:Ty}{h:Value}{rows:List r.D}{F:ABJ}(ho:Ow w S d (.sl r) [h] rows F)
  (hS:∀b,S b→w'.heap[b]? =w.heap[b]?) (hF:∀b∈F,w'.heap[b]? =w.heap[b]?) {p:List WR} (hp:DF r rows p) {q:Ty} {ys:List q.D} (hg:G_ r rows p=some ⟨q,ys⟩)
  {h':Value} (hh:Iw w h p=some h'):Iw w' h p=some h':=by
 obtain⟨h1,k,_⟩:=ng (Xh ho) hp hg;grind
end Go.Fw
end
section
namespace Go.Fw
theorem Ca.set{α β:Type}{R:α→β→Prop}:∀{l:List α} {m:List β} {i:Nat} {a:α} {b:β},Ca R l m→R a b→Ca R (l.set i a) (m.set i b)
 |[],[],_,_,_,_,_=>trivial
 |_::_,_::_,0,_,_,h,r=>⟨r,h.2⟩
 |_::_,_::_,i+1,_,_,h,r=>⟨h.1,Ca.set h.2 r⟩
theorem Ca.append{α β:Type}{R:α→β→Prop}:∀{l:List α} {m:List β} {l':List α} {m':List β},Ca R l m→Ca R l' m'→Ca R (l++l') (m++m')
 |[],[],_,_,_,h=>h
 |_::_,_::_,_,_,h,k=>⟨h.1,Ca.append h.2 k⟩
theorem Ca.K4{α β γ:Type}{R:α→β→Prop}{S:γ→β→Prop}(f:α→γ)(h:∀a b,R a b→S (f a) b):∀{l:List α} {m:List β},Ca R l m→Ca S (l.map f) m
 |[],[],_=>trivial
 |_::_,_::_,k=>⟨h _ _ k.1,Ca.K4 f h k.2⟩
theorem Ca.drop{α β:Type}{R:α→β→Prop}:∀{l:List α} {m:List β} (n:Nat),Ca R l m→Ca R (l.drop n) (m.drop n)
 |_,_,0,h=>h
 |[],[],_+1,_=>trivial
 |_::_,_::_,n+1,h=>Ca.drop n h.2
theorem Ca.take{α β:Type}{R:α→β→Prop}:∀{l:List α} {m:List β} (n:Nat),Ca R l m→Ca R (l.take n) (m.take n)
 |[],[],0,_=>trivial
 |_::_,_::_,0,_=>trivial
 |[],[],_+1,_=>trivial
 |_::_,_::_,n+1,h=>⟨h.1,Ca.take n h.2⟩
structure d_ (E0:Env) (w0:World) (E:Env) (w:World):Prop where
 T:∀c,E0.T c→E.T c
 S:∀c,E0.S c→E.S c
 Tof:∀c,E.T c→E0.T c∨E.S c
 Sof:∀c,E.S c→E0.S c∨ ¬E0.T c
 heap:∀c,E0.T c→w.heap[c]? =w0.heap[c]?
 os:w.os=w0.os
 tape:w.tape=w0.tape
 output:w.output=w0.output
 size:w0.heap.size≤w.heap.size
theorem d_.refl(E:Env)(w:World):d_ E w E w:=⟨fun _ h=>h,fun _ h=>h,fun _ h=> .inl h,fun _ h=> .inl h,fun _ _=>rfl,rfl,rfl,rfl,AQE _⟩
theorem d_.trans{E E' E'':Env}{w w' w'':World}(h:d_ E w E' w')(k:d_ E' w' E'' w''):d_ E w E'' w'':=
 ⟨fun c hc=>k.T c (h.T c hc),fun c hc=>k.S c (h.S c hc),fun c hc=>(k.Tof c hc).elim (fun h' =>(h.Tof c h').imp id (k.S c)) .inr,
  fun c hc=>(k.Sof c hc).elim (h.Sof c) (fun h' => .inr fun ht=>h' (h.T c ht)),fun c hc=>(k.heap c (h.T c hc)).trans (h.heap c hc),
  k.os.trans h.os,k.tape.trans h.tape,k.output.trans h.output,AQ4 h.size k.size⟩
theorem Le.base{E E':Env}(h:Le E E')(w:World):d_ E w E' w:=⟨h.T,h.S,h.Tof,h.Sof,fun _ _=>rfl,rfl,rfl,rfl,AQE _⟩
def xy(E:Env)(w:World)(k:Nat):Bx→Nat→Prop
 | .mem _,c=>c=E.H0 k
 | .sl _ r rows,c=>RB w (.sl r) [E.H3 k] rows c
 | .dead,_=>False
def U5:Bx→Bx→Prop
 | .mem _,.mem _=>True
 | .sl _ r x,.sl _ q y=>(⟨r,x⟩:(r:Ty)×List r.D)=⟨q,y⟩
 |_,_=>False
structure RJ (t:ABJ) (E0:Env) (bx0:List Bx) (w0:World) (E:Env) (bx:List Bx) (w:World):Prop where
 base:d_ E0 w0 E w
 len:bx0.length≤bx.length
 ids:∀b,b<bx0.length→E.H0 b=E0.H0 b∧E.H3 b=E0.H3 b
 dead:∀b:Nat,bx0[b]? =some Bx.dead→bx[b]? =some Bx.dead
 frame:∀(n:Nat) B B',n∉t→bx0[n]? =some B→bx[n]? =some B'→B'≠ .dead→U5 B B'∧ ∀c,xy E0 w0 n B c→w.heap[c]? =w0.heap[c]?
theorem RJ.any{E E':Env}{bx QQ:List Bx}{w w':World}(h:RJ [] E bx w E' QQ w'){t:ABJ}:RJ t E bx w E' QQ w':=
 ⟨h.base,h.len,h.ids,h.dead,fun n B B' _=>h.frame n B B' (by simp)⟩
theorem U5.refl{B:Bx}(h:B≠ .dead):U5 B B:=by cases B<;>simp_all[U5]
theorem RJ.refl(t:ABJ)(E:Env)(bx:List Bx)(w:World):RJ t E bx w E bx w:=⟨d_.refl E w,AQE _,fun _ _=>⟨rfl,rfl⟩,fun _ h=>h,fun n B B' _ h h' hd=>by
 rw[h]at h';cases h';exact⟨U5.refl hd,fun _ _=>rfl⟩⟩
theorem eU{E:Env}{w:World}{vw:List Bx}{k:Nat}{B:Bx}{F:ABJ}{c:Nat}(h:py E w vw k B F)(hc:xy E w k B c):E.S c∨c∈F:=by
 cases B with
 |mem cs=>obtain⟨rfl,_⟩:=h;grind[xy]
 |sl d r rows=>exact tq (Xh h.2) hc
 |dead=>exact hc.elim
structure Rel (E:Env) (σ:St) (a:Act) (w:World):Prop where
 NO:a.defers=[]
 tm:Ca (XR E w σ.bx) σ.tm a.tmps.toList
 bx:DD E w σ.bx σ.bx []
theorem Rel.put{E:Env}{σ:St}{a:Act}{w:World}(h:Rel E σ a w)(dst:Option Tmp){x:XV}{v:Value}(hx:XR E w σ.bx x v):Rel E (σ.put dst x) (a.put dst v) w:=by
 cases dst with
 |none=>exact h
 |some d=>exact⟨h.NO,by simpa[St.put,Act.put]using Ca.set h.tm hx,h.bx⟩
theorem Ca.AR2{E:Env}{w:World}{vw:List Bx}{l:List XV}{m:Array Value}(h:Ca (XR E w vw) l m.toList)(t:Nat):XR E w vw (l.getD t (.c .undef)) (m.getD t undef):=by
 by_cases ht:t<l.length
 ·have e:l[t]? =some l[t]:=ALR ht
  obtain⟨b,hb,hr⟩:=h.get e;simp_all
 ·have e:l[t]? =none:=by simp_all
  simp only[List.getD_eq_getElem?_getD,e,Option.getD_none]
  trivial
theorem si{E:Env}{w:World}{vw:List Bx}(v:Value):VR E w vw (qO v) v:=by
 unfold qO;split<;>first
  |trivial
  |exact⟨rfl,by simp[Rd]⟩
  |rfl
theorem lu{E:Env}{w:World}{vw:List Bx}:∀(l:List Value),iy E w vw (l.map qO) l
 |[]=>trivial
 |a::l=>⟨si a,lu l⟩
theorem yc{E:Env}{w:World}{vw:List Bx}(v:Value):XR E w vw (ofValue v) v:=by
 unfold ofValue;split
 ·rename_i cs
  exact⟨cs,rfl,lu cs.toList⟩
 ·exact si v
theorem Rel.ev{E:Env}{σ:St}{a:Act}{w:World}(h:Rel E σ a w)(x:Operand):XR E w σ.bx (σ.ev x) (a.eval x):=by
 cases x with
 |tmp t=>exact Ca.AR2 h.tm t
 |const v=>exact yc v
 |global g=>trivial
 |func f=>exact⟨by simp,rfl⟩
theorem Uo{b:Nat}:∀{Fs:List ABJ} {F:ABJ},Fs[b]? =some F→Fs.flatten.Perm (F++(Fs.set b []).flatten):=by
 induction b with
 |zero=>
  intro Fs F h;cases Fs with
  |nil=>simp at h
  |cons A l=>simp_all
 |succ b ih=>
  intro Fs F h;cases Fs with
  |nil=>simp at h
  |cons A l=>
   grind
theorem Sep.perm{E:Env}{w:World}{F F':ABJ}(h:Sep E w F)(p:F.Perm F'):Sep E w F':=
 ⟨p.nodup_iff.1 h.nodup,fun c hc=>h.free c (p.mem_iff.2 hc),fun c hc=>h.lt c (p.mem_iff.2 hc),h.st,h.cf⟩
theorem Sep.sub{E:Env}{w:World}{F F':ABJ}(h:Sep E w (F++F')):Sep E w F:=
 ⟨(AM6.1 h.nodup).1,fun c hc=>h.free c (by simp[hc]),fun c hc=>h.lt c (by simp[hc]),h.st,h.cf⟩
theorem DD.perm{E:Env}{w:World}{vw bx:List Bx}{G G':ABJ}(h:DD E w vw bx G)(p:G.Perm G'):DD E w vw bx G':=
 let⟨Fs,h1,h2⟩:=h
 ⟨Fs,h1,h2.perm (AWT _ p)⟩
theorem DD.drop{E:Env}{w:World}{vw bx:List Bx}{G G':ABJ}(h:DD E w vw bx (G++G')):DD E w vw bx G:=
 let⟨Fs,h1,h2⟩:=h
 ⟨Fs,h1,by rw[←AM_]at h2;exact h2.sub⟩
theorem DD.st{E:Env}{w:World}{vw bx:List Bx}{G:ABJ}(h:DD E w vw bx G):∀c,E.S c→E.T c:=let⟨_,_,h⟩:=h;h.st
theorem DD.cf{E:Env}{w:World}{vw bx:List Bx}{G:ABJ}(h:DD E w vw bx G):∀c,E.T c→c<w.heap.size:=let⟨_,_,h⟩:=h;h.cf
theorem DD.AEG{E:Env}{w:World}{vw bx:List Bx}{G:ABJ}(h:DD E w vw bx G):∀c∈G,¬E.T c:=let⟨_,_,h⟩:=h;fun c hc=>h.free c (by simp[hc])
theorem DD.take{E:Env}{w:World}{vw bx:List Bx}{G:ABJ}(h:DD E w vw bx G){b:Nat}{B:Bx}(hb:bx[b]? =some B):
  ∃F,py E w vw b B F∧DD E w vw (bx.set b .dead) (F++G):=by
 obtain⟨Fs,⟨hl,h1⟩,h2⟩:=h;have Lu:=(AMG.1 hb).1;have hF:Fs[b]? =some (Fs[b]'(by omega)):=ALR _;refine⟨_,h1 b B _ hb hF,Fs.set b [],⟨by simp_all,fun k C F hk hkF=> ?_⟩,h2.perm ?_⟩
 ·by_cases e:k=b
  ·subst e
   rw[ATe (by omega)]at hk hkF;cases hk;cases hkF;rfl
  grind
 grind[List.Perm.append_right,Uo,List.append_assoc,List.perm_append_comm,trans,List.Perm.append_left]
theorem DD.put{E:Env}{w:World}{vw bx:List Bx}{F G:ABJ}(h:DD E w vw bx (F++G)){b:Nat}{B:Bx}(hb:bx[b]? =some .dead)(hB:py E w vw b B F):
  DD E w vw (bx.set b B) G:=by
 obtain⟨Fs,⟨hl,h1⟩,h2⟩:=h;have Lu:=(AMG.1 hb).1;have hF:Fs[b]? =some (Fs[b]'(by omega)):=ALR _;have e0:Fs[b]'(by omega)=[]:=h1 b _ _ hb hF;refine⟨Fs.set b F,⟨by simp_all,fun k C F' hk hkF=> ?_⟩,h2.perm ?_⟩
 ·grind
 ·have p:(Fs.set b F).flatten.Perm (F++Fs.flatten):=by
   have p1:=Uo (Fs:=Fs.set b F) (b:=b) (F:=F) (ATe (by omega));rw[AXp]at p1;have p2:=Uo hF;grind
  grind
theorem DD.push{E:Env}{w:World}{vw bx:List Bx}{F G:ABJ}(h:DD E w vw bx (F++G)){B:Bx}(hB:py E w vw bx.length B F):
  DD E w vw (bx++[B]) G:=by
 obtain⟨Fs,⟨hl,h1⟩,h2⟩:=h;refine⟨Fs++[F],⟨by simp[hl],fun k C F' hk hkF=> ?_⟩,h2.perm (by simp)⟩;grind
theorem DD.turn{E E':Env}{w w':World}{vw vw' bx:List Bx}{G:ABJ}(h:DD E w vw bx G)(k:∀x v,VR E w vw x v→VR E' w' vw' x v)
  (hS:∀c,E.S c→E'.S c) (ADW:∀b,b<bx.length→E'.H0 b=E.H0 b) (mj:∀b,b<bx.length→E'.H3 b=E.H3 b)
  (hw:∀c,(E.S c∨(¬E.T c∧c∉G))→c<w.heap.size→w'.heap[c]? =w.heap[c]?)
  (AEU:∀F,Sep E w (F++G)→Sep E' w' (F++G)):DD E' w' vw' bx G:=by
 obtain⟨Fs,⟨hl,h1⟩,h2⟩:=h;refine⟨Fs,⟨hl,fun n B F hn hF=> ?_⟩,AEU _ h2⟩;have Lu:=(AMG.1 hn).1;have h3:=h1 n B F hn hF;have AOc:∀c∈F,c∈Fs.flatten:=fun c hc=>ASW.2 ⟨F,ANe hF,hc⟩
 have hFw:∀c∈F,w'.heap[c]? =w.heap[c]?:=fun c hc=>hw c (.inr ⟨h2.free c (by simp_all),fun hg=>by
  have:=(AM6.1 h2.nodup).2.2 c (AOc c hc) c hg;omega⟩) (h2.lt c (by simp_all))
 have sy:∀c,E.S c→w'.heap[c]? =w.heap[c]?:=fun c hc=>hw c (.inl hc) (h2.cf c (h2.st c hc))
 cases B with
 |mem cs=>
  obtain⟨rfl,arr,ty,fr,ha,hu,hv⟩:=h3;refine⟨by simp_all,arr,ty,fr,?_,hu,hv.imp k⟩;simp_all
 |sl d r rows=>
  obtain⟨hd,ho⟩:=h3;refine⟨hd,?_⟩;grind[Eb]
 |dead=>exact h3
end Go.Fw
end
section
namespace Go.Fw
theorem H7{β:Ty→Type}{a b:Ty}{x:β a}{y:β b}(h:QO a b x=some y):∃e:a=b,e▸x=y:=by
 grind[QO]
def FM(bk vw:List Bx):Prop:= ∀(b:Nat) (B:Bx),bk[b]? =some B→B= .dead∨vw[b]? =some B
theorem FM.refl(bx:List Bx):FM bx bx:=fun _ _ h=> .inr h
theorem Addr.add_eq(b o n:Nat):(⟨b,o,none⟩:Addr).add n=⟨b,o+n,none⟩:=by grind[Addr.add]
theorem zW{w:World}{B:Nat→Prop}{r:Ty}{a:Option Addr}{len cap:Nat}{ys:List r.D}(h:Rd w B (.sl r) [.slice a len cap] ys){off n:Nat}(hn:off+n≤ys.length):
  Rd w B (.sl r) [U4 r.n off n a cap] ((ys.drop off).take n):=by
 simp only[Rd]at h⊢;obtain⟨a',cap',e,hc,h⟩:=h;simp only[AQY,Value.slice.injEq,ATS]at e;obtain⟨rfl,rfl,rfl⟩:=e;have hl:((ys.drop off).take n).length=n:=by grind
 refine⟨_,_,by unfold U4;rw[hl],by omega,?_⟩;rw[hl];by_cases h0:n=0
 ·omega
 ·rcases h with h|⟨b,o,rfl,hb,h⟩
  ·omega
  ·refine .inr ⟨b,o+off*r.n,?_,hb,fun i y hy=> ?_⟩
   ·rw[ALo (by omega)]
    simp[Addr.add_eq]
   grind
def oY(E:Env)(Fs:List ABJ)(c:Nat):Prop:=E.T c∨c∈Fs.flatten
section
variable{E:Env} {w:World} {vw bk:List Bx} {Fs:List ABJ}
theorem NG.get(h:NG E w vw bk Fs){b:Nat}{B:Bx}(e:bk[b]? =some B):∃F,py E w vw b B F∧ ∀c∈F,c∈Fs.flatten:=by
 have Lu:=(AMG.1 e).1;have hF:Fs[b]? =some (Fs[b]'(by rw[h.1];omega)):=ALR _;exact⟨_,h.2 b B _ e hF,fun c hc=>ASW.2 ⟨_,ANe hF,hc⟩⟩
theorem dw(hs:FM bk vw)(h:NG E w vw bk Fs)(st:∀c,E.S c→E.T c){b d:Nat}{r:Ty}{rows:List r.D}(e:bk[b]? =some (.sl d r rows))
  {p:List WR} (hp:DF r rows p) {q:Ty} {ys:List q.D} (hg:G_ r rows p=some ⟨q,ys⟩) {v:Value} (hh:Iw w (E.H3 b) p=some v):
  Rd w (oY E Fs) (.sl q) [v] ys:=by
 obtain⟨F,⟨_,ho⟩,hF⟩:=h.get e;obtain⟨h',k,hr⟩:=ng (Xh ho) hp hg;have:=k w (fun _ _=>rfl);rw[hh]at this;cases this;exact Fo (fun c hc=>hc.elim (fun hc=> .inl (st c hc)) (fun hc=> .inr (hF c hc))) (fun _ _=>rfl) hr
theorem X_(hs:FM bk vw){b d:Nat}{r:Ty}{rows:List r.D}(e:bk[b]? =some (.sl d r rows)):vw[b]? =some (.sl d r rows):=by
 rcases hs b _ e with h|h
 all_goals simp_all
theorem aF(hs:FM bk vw)(h:NG E w vw bk Fs)(st:∀c,E.S c→E.T c){x:AV}{v:Value}(hv:VR E w vw x v){q:Ty}{ys:List q.D}(e:NN bk x=some ⟨q,ys⟩):
  Rd w (oY E Fs) (.sl q) [v] ys:=by
 cases x with
 |sl s r x=>
  simp only[NN,ALt,AM4]at e;obtain⟨rfl,e⟩:=e;obtain rfl:=AQj e;simp only[VR]at hv;refine Fo (fun c hc=> ?_) (fun _ _=>rfl) hv;cases s
  ·exact .inl (by simp_all)
  ·exact .inl (st c (by simp_all))
 |ref b p=>
  grind[NN,VR,X_,dw]
 |win b p off n=>
  simp only[NN]at e;split at e
  ·rename_i d r rows hb
   simp only[VR,X_ hs hb]at hv;obtain⟨_,hp,q',vX,a,len,cap,hg,hl,hh,rfl⟩:=hv;rw[hg]at e;simp only[AT4,ALt,AM4]at e;obtain⟨rfl,e⟩:=e;obtain rfl:=AQj e;grind[zW,dw]
  simp_all
 |_=>simp[NN]at e
theorem Ug(hs:FM bk vw)(h:NG E w vw bk Fs)(st:∀c,E.S c→E.T c){t:Ty}{x:AV}{v:Value}(hv:VR E w vw x v){y:t.D}(e:Mr bk t x=some y):
  Rd w (oY E Fs) t [v] y:=by
 have sl:∀(r:Ty) (x:AV) (v:Value) (y:List r.D),VR E w vw x v→((NN bk x).bind fun q=>QO (β:=fun r=>List r.D) q.1 r q.2)=some y→Rd w (oY E Fs) (.sl r) [v] y:=by
  grind[Option.bind_eq_some_iff,H7,aF]
 cases x with
 |v u z=>
  simp only[Mr]at e;obtain⟨e1,e2⟩:=H7 e;subst e1;subst e2;exact Fo (fun _ hc=>hc.elim) (fun _ hc=>hc.elim) hv.2
 |nil=>
  cases t with
  |sl r=>
   simp only[Mr,ALt]at e;subst e;simp only[VR]at hv;subst hv;simp only[Rd];simp_all
  |_=>simp[Mr]at e
 |_=>
  cases t with
  |sl r=>exact sl r _ _ y hv (by simpa only[Mr]using e)
  |_=>simp[Mr]at e
theorem ga(hs:FM bk vw)(h:NG E w vw bk Fs)(st:∀c,E.S c→E.T c):∀{r:Ty} {l:List AV} {vs:List Value} {x:r.D},iy E w vw l vs→IA bk r l=some x→
  Rd w (oY E Fs) r vs x
 | .unit,[],[],x,_,_=>by rfl
 | .cons c r,a::l,v::vs,x,hv,e=>by
  simp only[IA,AMR,AL9]at e;obtain⟨y,e1,z,e2,rfl⟩:=e;simp only[Rd];exact⟨v,vs,rfl,Ug hs h st hv.1 e1,ga hs h st hv.2 e2⟩
 | .unit,_::_,_,_,_,e=>by simp[IA]at e
 | .unit,[],_::_,_,hv,_=>hv.elim
 | .cons _ _,[],_,_,_,e=>by simp[IA]at e
 | .cons _ _,_::_,[],_,hv,_=>hv.elim
 | .int _,_,_,_,_,e=>by simp[IA]at e
 | .bool,_,_,_,_,e=>by simp[IA]at e
 | .str,_,_,_,_,e=>by simp[IA]at e
 | .sl _,_,_,_,_,e=>by simp[IA]at e
theorem il{E1:Env}{yF:List Bx}(hs:FM bk vw)(h:NG E w vw bk Fs)(st:∀c,E.S c→E.T c)(hT:∀c,oY E Fs c→E1.T c):
  ∀{r:Ty} {l:List AV} {vs:List Value} {x:r.D},iy E w vw l vs→IA bk r l=some x→iy E1 w yF (pc r x) vs
 | .unit,[],[],x,_,_=>trivial
 | .cons c r,a::l,v::vs,x,hv,e=>by
  simp only[IA,AMR,AL9]at e;obtain⟨y,e1,z,e2,rfl⟩:=e;have ZG:=Ug hs h st hv.1 e1;have tl:iy E1 w yF _ _:=il hs h st hT hv.2 e2;cases c with
  |sl q=>
   refine⟨?_,tl⟩;simp only[VR];exact Fo hT (fun _ _=>rfl) (by omega)
  |int k=>exact⟨⟨rfl,by grind[Rd]⟩,tl⟩
  |bool=>exact⟨⟨rfl,by grind[Rd]⟩,tl⟩
  |str=>exact⟨⟨rfl,by grind[Rd]⟩,tl⟩
  |unit=>
   grind[Rd]
  |cons c' r' =>
   exfalso
   cases a with
   |v u z=>
    simp only[Mr]at e1;obtain⟨e3,_⟩:=H7 e1;subst e3;exact absurd hv.1.1 (by simp[Ty.scalar])
   |_=>simp[Mr]at e1
 | .unit,_::_,_,_,_,e=>by simp[IA]at e
 | .unit,[],_::_,_,hv,_=>hv.elim
 | .cons _ _,[],_,_,_,e=>by simp[IA]at e
 | .cons _ _,_::_,[],_,hv,_=>hv.elim
 | .int _,_,_,_,_,e=>by simp[IA]at e
 | .bool,_,_,_,_,e=>by simp[IA]at e
 | .str,_,_,_,_,e=>by simp[IA]at e
 | .sl _,_,_,_,_,e=>by simp[IA]at e
end
end Go.Fw
end
section
namespace Go.Fw
def Ext(m m':Pc):Prop:=m'.length=m.length∧ ∀(i b:Nat),m[i]? =some (some b)→m'[i]? =some (some b)
theorem Ext.refl(m:Pc):Ext m m:=⟨rfl,fun _ _ h=>h⟩
theorem Ext.trans{m m' m'':Pc}(h:Ext m m')(k:Ext m' m''):Ext m m'':=⟨k.1.trans h.1,fun i b e=>k.2 i b (h.2 i b e)⟩
def qE(m:Pc):Prop:= ∀(i j b:Nat),m[i]? =some (some b)→m[j]? =some (some b)→i=j
theorem cm{m m':Pc}{i b:Nat}(e:m.put i b=some m'):Ext m m'∧m'[i]? =some (some b)∧(qE m→qE m'):=by
 unfold Pc.put at e;split at e
 ·rename_i h
  split at e
  ·cases e
  ·rename_i hc
   cases e;have Lu:=(AMG.1 h).1;have AV9:∀(k:Nat),m[k]?≠some (some b):=fun k hk=>hc (by
    grind)
   refine⟨⟨by simp,fun k c hk=> ?_⟩,by simp[Lu],fun hi j k c hj hk=> ?_⟩
   ·grind
   ·by_cases e1:j=i<;>by_cases e2:k=i
    ·omega
    ·grind
    ·grind
    ·rw[ASj (by omega)]at hj hk
     exact hi j k c hj hk
 all_goals grind[Ext.refl]
def Rj(m:Pc):List Nat→List Nat→Prop
 |[],[]=>True
 |i::is,b::bs=>m[i]? =some (some b)∧Rj m is bs
 |_,_=>False
theorem Rj.ext{m m':Pc}(h:Ext m m'):∀{is bs},Rj m is bs→Rj m' is bs
 |[],[],_=>trivial
 |_::_,_::_,k=>⟨h.2 _ _ k.1,Rj.ext h k.2⟩
theorem jl:∀{is bs:ABJ} {m m':Pc},ax m is bs=some m'→Ext m m'∧Rj m' is bs∧(qE m→qE m')
 |[],[],m,m',e=>by simp only[ax,ALt]at e;subst e;exact⟨Ext.refl _,trivial,fun h=>h⟩
 |i::is,b::bs,m,m',e=>by
  simp only[ax,AMR]at e;obtain⟨m1,e1,e2⟩:=e;obtain⟨a1,a2,a3⟩:=cm e1;obtain⟨b1,b2,b3⟩:=jl e2;exact⟨a1.trans b1,⟨b1.2 _ _ a2,b2⟩,fun h=>b3 (a3 h)⟩
 |[],_::_,_,_,e=>by simp[ax]at e
 |_::_,[],_,_,e=>by simp[ax]at e
def RY(N:Nat)(m:Pc):AP→AV→Prop
 | .ref i,x=> ∃b,(x= .ref b []∨(x= .nil∧b=N+i))∧m[i]? =some (some b)
 | .ptr i j,x=> ∃b,x= .IL b j∧m[i]? =some (some b)
 | .fn f KZ,x=> ∃bs,x= .fn f bs∧Rj m KZ bs
 | .nil,x=>x= .nil
 | .j0 i sz,x=> ∃b k j,x= .ref b [⟨k,sz,j⟩]∧m[i]? =some (some b)
 |_,_=>True
theorem RY.ext{N:Nat}{m m':Pc}(h:Ext m m'){p:AP}{x:AV}(k:RY N m p x):RY N m' p x:=by
 cases p with
 |ref i=>obtain⟨b,hx,k⟩:=k;exact⟨b,hx,h.2 _ _ k⟩
 |ptr i j=>obtain⟨b,rfl,k⟩:=k;exact⟨b,rfl,h.2 _ _ k⟩
 |fn f KZ=>obtain⟨bs,rfl,k⟩:=k;exact⟨bs,rfl,k.ext h⟩
 |nil=>exact k
 |j0 i sz=>obtain⟨b,q,j,rfl,k⟩:=k;exact⟨b,q,j,rfl,h.2 _ _ k⟩
 |_=>trivial
theorem cv{N:Nat}{m m':Pc}{p:AP}{x:AV}(e:p.Nl N m x=some m'):Ext m m'∧RY N m' p x∧(qE m→qE m'):=by
 cases p with
 |ref i=>
  cases x with
  |ref b q=>
   cases q with
   |nil=>
    obtain⟨a,b,c⟩:=cm (by simpa only[AP.Nl]using e);exact⟨a,⟨_,.inl rfl,b⟩,c⟩
   |cons _ _=>simp[AP.Nl]at e
  |nil=>
   obtain⟨a,b,c⟩:=cm (by simpa only[AP.Nl]using e);exact⟨a,⟨_,.inr ⟨rfl,rfl⟩,b⟩,c⟩
  |_=>simp[AP.Nl]at e
 |ptr i j=>
  cases x with
  |IL b j' =>
   simp only[AP.Nl]at e;split at e
   ·rename_i hj
    subst hj;obtain⟨a,b,c⟩:=cm e;exact⟨a,⟨_,rfl,b⟩,c⟩
   simp_all
  |_=>simp[AP.Nl]at e
 |fn f KZ=>
  cases x with
  |fn g bs=>
   simp only[AP.Nl]at e;split at e
   ·rename_i hf
    subst hf;obtain⟨a,b,c⟩:=jl e;exact⟨a,⟨_,rfl,b⟩,c⟩
   simp_all
  |_=>simp[AP.Nl]at e
 |nil=>
  cases x with
  |nil=>simp only[AP.Nl,ALt]at e;subst e;exact⟨Ext.refl _,rfl,fun h=>h⟩
  |_=>simp[AP.Nl]at e
 |j0 i sz=>
  cases x with
  |ref b q=>
   cases q with
   |nil=>simp[AP.Nl]at e
   |cons s q=>
    cases q with
    |nil=>
     simp only[AP.Nl]at e;split at e
     ·rename_i hs
      obtain⟨a,b,c⟩:=cm e;obtain⟨k,z,y⟩:=s;dsimp only at hs;subst hs;exact⟨a,⟨_,k,y,rfl,b⟩,c⟩
     simp_all
    |cons _ _=>simp[AP.Nl]at e
  |_=>simp[AP.Nl]at e
 |_=>
  have:m=m':=by grind[AP.Nl]
  subst this;exact⟨Ext.refl _,trivial,fun h=>h⟩
theorem WB{N:Nat}:∀{l:List AP} {xs:List AV} {m m':Pc},Xs.Nl N m l xs=some m'→Ext m m'∧Ca (RY N m') l xs∧(qE m→qE m')
 |[],[],m,m',e=>by simp only[Xs.Nl,ALt]at e;subst e;exact⟨Ext.refl _,trivial,fun h=>h⟩
 |p::l,x::xs,m,m',e=>by
  simp only[Xs.Nl,AMR]at e;obtain⟨m1,e1,e2⟩:=e;obtain⟨a1,a2,a3⟩:=cv e1;obtain⟨b1,b2,b3⟩:=WB e2;exact⟨a1.trans b1,⟨a2.ext b1,b2⟩,fun h=>b3 (a3 h)⟩
 |[],_::_,_,_,e=>by simp[Xs.Nl]at e
 |_::_,[],_,_,e=>by simp[Xs.Nl]at e
def gb(N:Nat)(m:Pc):AP ⊕ List AP→AV ⊕ List AV→Prop
 | .inl p,.inl x=>RY N m p x
 | .inr p,.inr x=>Ca (RY N m) p x
 |_,_=>False
theorem gb.ext{N:Nat}{m m':Pc}(h:Ext m m'):∀{p:AP ⊕ List AP} {x:AV ⊕ List AV},gb N m p x→gb N m' p x
 | .inl _,.inl _,k=>RY.ext h k
 | .inr _,.inr _,k=>Ca.imp (fun _ _ k=>RY.ext h k) k
theorem aj{N:Nat}:∀{l:List (AP ⊕ List AP)} {xs:List (AV ⊕ List AV)} {m m':Pc},X2.Nl N m l xs=some m'→Ext m m'∧Ca (gb N m') l xs∧(qE m→qE m')
 |[],[],m,m',e=>by simp only[X2.Nl,ALt]at e;subst e;exact⟨Ext.refl _,trivial,fun h=>h⟩
 | .inl p::l,.inl x::xs,m,m',e=>by
  simp only[X2.Nl,AMR]at e;obtain⟨m1,e1,e2⟩:=e;obtain⟨a1,a2,a3⟩:=cv e1;obtain⟨b1,b2,b3⟩:=aj e2;exact⟨a1.trans b1,⟨RY.ext b1 a2,b2⟩,fun h=>b3 (a3 h)⟩
 | .inr p::l,.inr x::xs,m,m',e=>by
  simp only[X2.Nl,AMR]at e;obtain⟨m1,e1,e2⟩:=e;obtain⟨a1,a2,a3⟩:=WB e1;obtain⟨b1,b2,b3⟩:=aj e2;exact⟨a1.trans b1,⟨Ca.imp (fun _ _ k=>RY.ext b1 k) a2,b2⟩,fun h=>b3 (a3 h)⟩
 |[],_::_,_,_,e=>by simp[X2.Nl]at e
 | .inl _::_,[],_,_,e=>by simp[X2.Nl]at e
 | .inr _::_,[],_,_,e=>by simp[X2.Nl]at e
 | .inl _::_,.inr _::_,_,_,e=>by simp[X2.Nl]at e
 | .inr _::_,.inl _::_,_,_,e=>by simp[X2.Nl]at e
def bO(N:Nat)(m:Pc):XP→XV→Prop
 | .c p,.c x=>RY N m p x
 | .agg l,.agg xs=>Ca (RY N m) l xs
 | .row _,.agg _=>True
 | .Me l,.Me xs=>Ca (gb N m) l xs
 |_,_=>False
theorem bO.ext{N:Nat}{m m':Pc}(h:Ext m m'):∀{p:XP} {x:XV},bO N m p x→bO N m' p x
 | .c _,.c _,k=>RY.ext h k
 | .agg _,.agg _,k=>Ca.imp (fun _ _ k=>RY.ext h k) k
 | .row _,.agg _,_=>trivial
 | .Me _,.Me _,k=>Ca.imp (fun _ _ k=>gb.ext h k) k
theorem xO{N:Nat}{m m':Pc}:∀{p:XP} {x:XV},p.Nl N m x=some m'→Ext m m'∧bO N m' p x∧(qE m→qE m')
 | .c p,.c x,e=>cv (by grind[XP.Nl])
 | .agg l,.agg xs,e=>WB (by grind[XP.Nl])
 | .row r,.agg xs,e=>by simp only[XP.Nl,ALt]at e;subst e;exact⟨Ext.refl _,trivial,fun h=>h⟩
 | .Me l,.Me xs,e=>aj (by grind[XP.Nl])
 | .c _,.agg _,e=>by simp[XP.Nl]at e
 | .c _,.Me _,e=>by simp[XP.Nl]at e
 | .agg _,.c _,e=>by simp[XP.Nl]at e
 | .agg _,.Me _,e=>by simp[XP.Nl]at e
 | .row _,.c _,e=>by simp[XP.Nl]at e
 | .row _,.Me _,e=>by simp[XP.Nl]at e
 | .Me _,.c _,e=>by simp[XP.Nl]at e
 | .Me _,.agg _,e=>by simp[XP.Nl]at e
theorem di{N:Nat}{tm:List XV}:∀{l:List (Nat×XP)} {m m':Pc},G5.Nl N tm m l=some m'→
  Ext m m'∧(∀q∈l,∃x,tm[q.1]? =some x∧bO N m' q.2 x)∧(qE m→qE m')
 |[],m,m',e=>by grind[G5.Nl,Option.some.injEq,Ext.refl]
 |(i,p)::l,m,m',e=>by
  simp only[G5.Nl]at e;split at e
  ·rename_i x hx
   simp only[AMR]at e;obtain⟨m1,e1,e2⟩:=e;obtain⟨a1,a2,a3⟩:=xO e1;obtain⟨b1,b2,b3⟩:=di e2;refine⟨a1.trans b1,?_,fun h=>b3 (a3 h)⟩;intro q hq;rcases AOJ.1 hq with rfl|hq
   all_goals grind[bO.ext]
  simp_all
theorem WA{N:Nat}{bx:List Bx}:∀{l:List BP} {i:Nat} {m m':Pc},Jl.Nl N bx i m l=some m'→
  Ext m m'∧(∀(k:Nat) q,l[k]? =some (.mem q)→ ∃b cs,m'[i+k]? =some (some b)∧bx[b]? =some (.mem cs)∧Ca (RY N m') q cs)∧
   (∀(k:Nat) d r,l[k]? =some (.sl d r)→ ∃b,m'[i+k]? =some (some b))∧(qE m→qE m')
 |[],i,m,m',e=>by grind[Jl.Nl,Option.some.injEq,Ext.refl]
 | .mem q::l,i,m,m',e=>by
  simp only[Jl.Nl]at e;split at e
  ·rename_i b hb
   split at e
   ·rename_i cs xW
    simp only[AMR]at e;obtain⟨m1,e1,e2⟩:=e;obtain⟨a1,a2,a3⟩:=WB e1;obtain⟨b1,b2,b4,b3⟩:=WA e2;refine⟨a1.trans b1,?_,?_,fun h=>b3 (a3 h)⟩
    ·intro k q' hk
     cases k with
     |zero=>cases hk;exact⟨b,cs,b1.2 _ _ (a1.2 _ _ hb),xW,Ca.imp (fun _ _ k=>RY.ext b1 k) a2⟩
     |succ k=>
      grind
    grind
   simp_all
  simp_all
 | .sl d r::l,i,m,m',e=>by
  simp only[Jl.Nl]at e;split at e
  ·rename_i b hb
   obtain⟨b1,b2,b4,b3⟩:=WA e;refine⟨b1,?_,?_,b3⟩
   ·grind
   ·intro k d r hk
    cases k with
    |zero=>exact⟨b,b1.2 _ _ hb⟩
    |succ k=>
     grind
  simp_all
 | .gone::l,i,m,m',e=>by
  simp only[Jl.Nl]at e;obtain⟨b1,b2,b4,b3⟩:=WA e;grind
theorem Ro{bx bk:List Bx}{Jf:Nat→Nat}:∀{l:List BP} {m:Pc} {x:Jl.V l},Jl.get bx bk m l=some x→(Jl.mk Jf l x).length=l.length∧
  ∀(k:Nat) p,l[k]? =some p→ ∃y:p.V,(Jl.mk Jf l x)[k]? =some (p.mk Jf y)∧
   match p,y with
   | .mem q,y=> ∃b cs,m[k]? =some (some b)∧bx[b]? =some (.mem cs)∧Xs.get bk q cs=some y
   | .sl d r,y=> ∃b d',m[k]? =some (some b)∧bx[b]? =some (.sl d' r y)∧1≤d∧d≤d'
   | .gone,_=>True
 |[],m,x,e=>⟨rfl,by simp⟩
 | .mem q::l,some b::m,x,e=>by
  simp only[Jl.get]at e;split at e
  ·rename_i cs xW
   simp only[AMR,AL9]at e;obtain⟨a,e1,c,e2,rfl⟩:=e;obtain⟨h1,h2⟩:=Ro (Jf:=Jf) e2;refine⟨by simp[Jl.mk,h1],fun k p hk=> ?_⟩;cases k with
   |zero=>cases hk;exact⟨a,rfl,b,cs,rfl,xW,e1⟩
   |succ k=>
    grind[Jl.mk]
  simp_all
 | .sl d r::l,some b::m,x,e=>by
  simp only[Jl.get]at e;split at e
  ·rename_i d' q rows hb
   split at e
   ·rename_i hd
    simp only[AMR,AL9]at e;obtain⟨a,e1,c,e2,rfl⟩:=e;obtain⟨e3,e4⟩:=H7 e1;subst e3;subst e4;obtain⟨h1,h2⟩:=Ro (Jf:=Jf) e2;refine⟨by simp[Jl.mk,h1],fun k p hk=> ?_⟩;cases k with
    |zero=>cases hk;exact⟨rows,rfl,b,d',rfl,hb,hd.1,hd.2⟩
    |succ k=>
     grind[Jl.mk]
   simp_all
  simp_all
 | .gone::l,o::m,x,e=>by
  have e':(Jl.get bx bk m l).map (fun c=>((),c))=some x:=by grind[Jl.get]
  simp only[AL9]at e';obtain⟨c,e2,rfl⟩:=e';obtain⟨h1,h2⟩:=Ro (Jf:=Jf) e2;refine⟨by simp[Jl.mk,h1],fun k p hk=> ?_⟩;cases k with
  |zero=>cases hk;exact⟨(),rfl,trivial⟩
  |succ k=>
   grind[Jl.mk]
 | .mem q::l,none::m,x,e=>by simp[Jl.get]at e
 | .sl d r::l,none::m,x,e=>by simp[Jl.get]at e
 | .mem _::_,[],x,e=>by simp[Jl.get]at e
 | .sl _ _::_,[],x,e=>by simp[Jl.get]at e
 | .gone::_,[],x,e=>by simp[Jl.get]at e
theorem KF:∀{m:Pc} {bx:List Bx},(Cz bx m).length=bx.length
 |[],_=>rfl
 |some b::m,bx=>by simp[Cz,KF]
 |none::m,bx=>by simp[Cz,KF]
theorem Ri:∀{m:Pc} {bx vw:List Bx},FM bx vw→FM (Cz bx m) vw
 |[],_,_,h=>h
 |none::m,bx,vw,h=>by simp only[Cz];exact Ri h
 |some b::m,bx,vw,h=>by
  simp only[Cz];refine Ri fun k B hk=> ?_
  by_cases e:k=b
  ·grind
  ·rw[ASj (by omega)]at hk
   exact h k B hk
theorem V2:∀{m:Pc} {bx:List Bx} {b:Nat} {B:Bx},some b∈m→(Cz bx m)[b]? =some B→B= .dead
 |some c::m,bx,b,B,h,e=>by
  simp only[Cz]at e;by_cases hm:some b∈m
  ·exact V2 hm e
  ·have:c=b:=by
    simp_all
   subst this;have:∀{m:Pc} {bx:List Bx},bx[c]? =some .dead→some c∉m→(Cz bx m)[c]? =some .dead:=by
    intro m
    induction m with
    |nil=>intro bx h _;exact h
    |cons o m ih=>
     intro bx h hn;cases o with
     |none=>grind[Cz,List.mem_cons_of_mem]
     |some d=>
      grind[Cz,List.mem_cons_of_mem,List.getElem?_set_ne]
   grind[List.getElem?_eq_some_iff,KF]
 |none::m,bx,b,B,h,e=>by
  simp only[Cz]at e;exact V2 (by simp_all) e
theorem nu{E:Env}{w:World}{vw:List Bx}:∀{m:Pc} {bx:List Bx} {G:ABJ},qE m→DD E w vw bx G→
  ∃Gs:List ABJ,Gs.length=m.length∧(∀(k b:Nat) B F,m[k]? =some (some b)→bx[b]? =some B→Gs[k]? =some F→py E w vw b B F)∧
   DD E w vw (Cz bx m) (Gs.flatten++G)
 |[],bx,G,_,h=>⟨[],rfl,by simp,h⟩
 |none::m,bx,G,hi,h=>by
  obtain⟨Gs,h1,h2,h3⟩:=nu (m:=m) (fun i j b Dh hj=>by
   have:=hi (i+1) (j+1) b (by simp_all) (by simp_all);omega) h
  refine⟨[]::Gs,by simp[h1],fun k b B F hk hB hF=> ?_,by grind[Cz]⟩;grind
 |some b::m,bx,G,hi,h=>by
  have AGo:qE m:=fun i j b Dh hj=>by
   have:=hi (i+1) (j+1) b (by simp_all) (by simp_all);omega
  cases e:bx[b]? with
  |none=>
   have W8:bx.set b .dead=bx:=List.set_eq_of_length_le (by simp_all);obtain⟨Gs,h1,h2,h3⟩:=nu (m:=m) AGo h;refine⟨[]::Gs,by simp[h1],fun k b' B F hk hB hF=> ?_,by grind[Cz]⟩;grind
  |some B0=>
   obtain⟨F0,k1,k2⟩:=h.take e;obtain⟨Gs,h1,h2,h3⟩:=nu (m:=m) AGo k2;refine⟨F0::Gs,by simp[h1],fun k b' B F hk hB hF=> ?_,?_⟩
   ·cases k with
    |zero=>
     simp_all
    |succ k=>
     have bd:b'≠b:=fun hh=>by
      have:=hi 0 (k+1) b (by simp) (by simp_all);omega
     grind
   ·simp only[Cz]
    refine h3.perm ?_
    grind
end Go.Fw
end
section
namespace Go.Fw
theorem pn{R:Nat→List Nat→List Nat→List Nat→Prop}:∀(Gs:List ABJ) (o:Nat),(∀(k:Nat) G,Gs[k]? =some G→ ∃F W,G.Perm (F++W)∧R (o+k) G F W)→
  ∃Fs Ws:List ABJ,Fs.length=Gs.length∧Ws.length=Gs.length∧Gs.flatten.Perm (Fs.flatten++Ws.flatten)∧
   ∀(k:Nat) G F W,Gs[k]? =some G→Fs[k]? =some F→Ws[k]? =some W→R (o+k) G F W
 |[],o,_=>⟨[],[],rfl,rfl,by simp,by simp⟩
 |G::Gs,o,h=>by
  obtain⟨F,W,hp,hr⟩:=h 0 G rfl;obtain⟨Fs,Ws,h1,h2,h3,h4⟩:=pn Gs (o+1) (fun k G hk=>by
   have:=h (k+1) G (by simp_all)
   rwa [show o+1+k=o+(k+1)by omega])
  refine⟨F::Fs,W::Ws,by simp[h1],by simp[h2],?_,fun k G' F' W' hG hF hW=> ?_⟩
  all_goals grind
def OB(E:Env)(w:World)(vw:List Bx)(Jf:Nat→Nat):(l:List (Nat×XP))→G5.V l→List Value→Prop
 |[],_,_=>True
 |(i,p)::l,x,vals=>(∃v,vals[i]? =some v∧XR E w vw (p.mk Jf x.1) v)∧OB E w vw Jf l x.2 vals
section
variable{E E1:Env} {w:World} {bx bk yF:List Bx} {Fk:List ABJ} {m:Pc}
theorem Rj.map{f:Nat→Nat}(h:∀(i b:Nat),m[i]? =some (some b)→E1.H0 i=E.H0 b):∀{is bs:ABJ},Rj m is bs→
  (is.map fun b=>Value.pointer (some ⟨E1.H0 b,0,none⟩))=bs.map fun b=>Value.pointer (some ⟨E.H0 b,0,none⟩)
 |[],[],_=>rfl
 |i::is,b::bs,k=>by simp[h i b k.1,Rj.map (f:=f) h k.2]
theorem Rj.lt:∀{is bs:ABJ},Rj m is bs→ ∀i∈is,i<m.length
 |[],[],_,_,h=>by simp at h
 |i::is,b::bs,k,j,h=>by
  rcases AOJ.1 h with rfl|h
  ·exact(AMG.1 k.1).1
  ·exact Rj.lt k.2 j h
structure AGD (N:Nat) (E:Env) (w:World) (bx bk:List Bx) (Fk:List ABJ) (m:Pc) (E1:Env) (yF:List Bx):Prop where
 within:FM bk bx
 boxes:NG E w bx bk Fk
 st:∀c,E.S c→E.T c
 T:∀c,oY E Fk c→E1.T c
 S:∀c,E.S c→E1.S c
 ids:∀(i b:Nat),m[i]? =some (some b)→E1.H0 i=E.H0 b∧E1.H3 i=E.H3 b
 len:m.length≤yF.length
 nil:∀(i:Nat) d r rows,yF[i]? =some (.sl d r rows)→E.H3 (N+i)= .slice none 0 0
 sl:∀(i:Nat) d r rows,i<m.length→yF[i]? =some (.sl d r rows)→ ∃b d',m[i]? =some (some b)∧bx[b]? =some (.sl d' r rows)
variable{N:Nat} (k:AGD N E w bx bk Fk m E1 yF)
include k
theorem zn{p:AP}{x:AV}{v:Value}(hv:VR E w bx x v)(ha:RY N m p x){y:p.V}(e:p.get bk x=some y):VR E1 w yF (p.mk id y) v:=by
 cases p with
 |v t=>
  simp only[AP.get]at e;split at e
  ·rename_i hs
   have hr:=Ug k.within k.boxes k.st hv e;refine⟨hs,?_⟩;cases t with
   |int _=>grind[Rd]
   |bool=>grind[Rd]
   |str=>grind[Rd]
   |_=>simp[Ty.scalar]at hs
  simp_all
 |sl s r=>
  cases s with
  |false=>
   simp only[AP.get]at e;have hr:=Ug k.within k.boxes k.st hv e;simp only[AP.mk,VR];exact Fo k.T (fun _ _=>rfl) (by omega)
  |true=>
   simp only[AP.get]at e;split at e
   ·rename_i q z
    obtain⟨e1,e2⟩:=H7 e;subst e1;subst e2;simp only[AP.mk,VR]at hv⊢;exact Fo k.S (fun _ _=>rfl) (by simp_all)
   ·cases e
    simp only[AP.mk,VR]at hv⊢;subst hv;simp only[Rd];simp_all
   simp_all
 |nil=>
  obtain rfl:=ha;exact hv
 |ref i=>
  obtain⟨b,hx,hm⟩:=ha;have hi:=(AMG.1 hm).1;simp only[AP.mk,id,VR];rcases hx with rfl|⟨rfl,rfl⟩
  ·have hsl:=hv.1
   refine⟨hsl,?_⟩;cases e1:yF[i]? with
   |none=>simp at e1;have:=k.len;omega
   |some B=>
    cases B with
    |sl d r rows=>
     obtain⟨b',d',h1,h2⟩:=k.sl i d r rows hi e1;rw[hm]at h1;cases h1;simp only[VR,h2]at hv
     replace hv:=hv.2
     refine⟨by simp[DF],⟨_,rfl⟩,?_⟩;rw[(k.ids i b hm).2];simp_all
    |_=>trivial
  ·have YQ:v= .slice none 0 0:=hv
   subst YQ;refine⟨rfl,?_⟩;cases e1:yF[i]? with
   |none=>simp at e1;have:=k.len;omega
   |some B=>
    cases B with
    |sl d r rows=>
     refine⟨by simp[DF],⟨_,rfl⟩,?_⟩;rw[(k.ids i _ hm).2,k.nil i d r rows e1,DA]
    |_=>trivial
 |ptr i j=>
  obtain⟨b,rfl,hm⟩:=ha;have hi:=(AMG.1 hm).1;exact⟨ATM hi k.len,by rw[hv.2,id,(k.ids i b hm).1]⟩
 |mr r=>
  simp only[AP.get]at e;split at e
  ·rename_i s q z
   obtain⟨e1,e2⟩:=H7 e;subst e1;subst e2;simp only[AP.mk,VR]at hv⊢;obtain⟨bb,o,cs,h1,h2,h3,h4,h5⟩:=hv;have ABq:∀c,(if s=true then E.S else E.T) c→E1.T c:=by
    intro c hc;cases s
    ·exact k.T c (.inl (by simp_all))
    ·exact k.T c (.inl (k.st c (by simp_all)))
   exact⟨bb,o,cs,h1,by simp_all,h3,h4,by simpa using Fo ABq (fun _ _=>rfl) h5⟩
  ·rename_i b
   split at e
   ·rename_i cs hb
    obtain⟨F,⟨hF,arr,ty,fr,ha,hu,VO⟩,PY⟩:=k.boxes.get hb;have ZG:=ga k.within k.boxes k.st VO e;simp only[AP.mk,VR];refine⟨E.H0 b,0,arr.toList,by simpa using hv.2,?_,lX ZG,?_,by simpa using Fo k.T (fun _ _=>rfl) ZG⟩
    ·simp only[AMH,AON]
     exact k.T _ (.inr (PY _ (by simp_all)))
    ·intro j u hj
     simp only[ATf,World.cell?,ha,ATX,AMH,AON];simp_all
   simp_all
  ·rename_i b p i sz
   split at e
   ·rename_i d q rows hb
    simp only[AMR]at e;obtain⟨⟨q',ys⟩,e1,e2⟩:=e;split at e2
    case isFalse=>cases e2
    rename_i PN;obtain⟨e3,e4⟩:=H7 e2;dsimp only at e3;subst e3;subst e4;simp only[VR,X_ k.within hb]at hv;obtain⟨_,hp,q1,ys1,bb,o,len,cap,hg,hi,hh,rfl⟩:=hv;rw[hg]at e1;simp only[ALt,AM4]at e1;obtain⟨e5,e6⟩:=e1;subst e5;obtain rfl:=AQj e6;have ZG:=dw k.within k.boxes k.st hb hp hg hh;simp only[Rd]at ZG;obtain⟨a',cap',ee,_,ZG⟩:=ZG;simp only[AQY,Value.slice.injEq,ATS]at ee;obtain⟨rfl,rfl,rfl⟩:=ee;rcases ZG with ZG|⟨b1,o1,e7,hb1,ZG⟩
    ·omega
    ·cases e7
     obtain⟨cs,c1,c2,c3⟩:=ZG i _ (RC hi);simp only[AP.mk,VR];refine⟨bb,o+i*q1.n,cs,by rw[PN],by simpa using k.T _ hb1,c1,c2,by simpa using Fo k.T (fun _ _=>rfl) c3⟩
   simp_all
  simp_all
 |fn f KZ=>
  obtain⟨bs,rfl,hc⟩:=ha;refine⟨fun i hi=>ATM (hc.lt i (by simp_all)) k.len,?_⟩;rw[hv.2];simp only[AP.mk,List.map_id];rw[Rj.map (f:=id) (fun i b h=>(k.ids i b h).1) hc]
 |qv f rs=>
  simp only[AP.get]at e;split at e
  ·rename_i g rows
   split at e
   case isFalse=>cases e
   rename_i hfg;subst hfg;obtain⟨ps,bf,Z7⟩:=hv;refine⟨ps,bf,?_⟩;clear ha bf
   induction rs generalizing rows ps with
   |nil=>
    cases rows with
    |nil=>
     cases ps with
     |nil=>trivial
     |cons _ _=>exact Z7.elim
    |cons _ _=>simp[ZB.pU]at e
   |cons r rs ih=>
    cases rows with
    |nil=>simp[ZB.pU]at e
    |cons q rows=>
     cases ps with
     |nil=>exact Z7.elim
     |cons p ps=>
      simp only[ZB.pU,AMR,AL9]at e;obtain⟨x1,e1,x2,e2,rfl⟩:=e;obtain⟨q1,q2⟩:=q;obtain⟨e3,e4⟩:=H7 e1;dsimp only at e3;subst e3;subst e4;obtain⟨⟨bb,o,cs,h1,h2,h3,h4,h5⟩,Z7⟩:=Z7;exact⟨⟨bb,o,cs,h1,k.T bb (.inl h2),h3,h4,Fo (fun b hb=>k.T b (.inl hb)) (fun _ _=>rfl) h5⟩,ih rows e2 ps Z7⟩
  ·rename_i g bs
   split at e
   case isFalse=>cases e
   rename_i hfg;subst hfg;obtain⟨bf,Z7⟩:=hv;refine⟨bs.map fun b=>Value.pointer (some ⟨E.H0 b,0,none⟩),Z7,?_⟩;clear ha bf Z7
   induction rs generalizing bs with
   |nil=>
    cases bs with
    |nil=>trivial
    |cons _ _=>simp[ZB.qT]at e
   |cons r rs ih=>
    cases bs with
    |nil=>simp[ZB.qT]at e
    |cons b bs=>
     simp only[ZB.qT,AMR,AL9]at e;obtain⟨x1,e1,x2,e2,rfl⟩:=e;split at e1
     case h_2=>cases e1
     rename_i cs hb;obtain⟨F,⟨hF,arr,ty,fr,ha,hu,VO⟩,PY⟩:=k.boxes.get hb;have ZG:=ga k.within k.boxes k.st VO e1;refine⟨⟨E.H0 b,0,arr.toList,rfl,k.T _ (.inr (PY _ (by simp_all))),lX ZG,?_,Fo k.T (fun _ _=>rfl) ZG⟩,ih bs e2⟩;intro j u hj;simp only[ATf,World.cell?,ha,ATX,AMH,AON];simp_all
  simp_all
 |any=>trivial
 |j0 i sz=>
  obtain⟨b,q,j,rfl,hm⟩:=ha;have hi:=(AMG.1 hm).1;simp only[AP.get,ALt]at e;subst e;simp only[AP.mk,id,VR];have hsl:=hv.1;refine⟨hsl,?_⟩;cases e1:yF[i]? with
  |none=>simp at e1;have:=k.len;omega
  |some B=>
   cases B with
   |sl d r rows=>
    obtain⟨b',d',h1,h2⟩:=k.sl i d r rows hi e1;rw[hm]at h1;cases h1;simp only[VR,h2]at hv
    replace hv:=hv.2
    refine⟨hv.1,hv.2.1,?_⟩;rw[(k.ids i b hm).2];simp_all
   |_=>trivial
theorem nv:∀{l:List AP} {xs:List AV} {vs:List Value},iy E w bx xs vs→Ca (RY N m) l xs→ ∀{y:Xs.V l},Xs.get bk l xs=some y→iy E1 w yF (Xs.mk id l y) vs
 |[],[],[],_,_,_,_=>trivial
 |p::l,x::xs,v::vs,hv,ha,y,e=>by
  simp only[Xs.get,AMR,AL9]at e;obtain⟨a,e1,b,e2,rfl⟩:=e;exact⟨zn k hv.1 ha.1 e1,nv hv.2 ha.2 e2⟩
 |[],[],_::_,hv,_,_,_=>hv.elim
 |_::_,_::_,[],hv,_,_,_=>hv.elim
 |[],_::_,_,_,ha,_,_=>ha.elim
 |_::_,[],_,_,ha,_,_=>ha.elim
theorem uX:∀{l:List (AP ⊕ List AP)} {xs:List (AV ⊕ List AV)} {vs:List Value},Ca (TR E w bx) xs vs→Ca (gb N m) l xs→ ∀{y:X2.V l},X2.get bk l xs=some y→
  Ca (TR E1 w yF) (X2.mk id l y) vs
 |[],[],[],_,_,_,_=>trivial
 | .inl p::l,.inl x::xs,v::vs,hv,ha,y,e=>by
  simp only[X2.get,AMR,AL9]at e;obtain⟨a,e1,b,e2,rfl⟩:=e;exact⟨zn k hv.1 ha.1 e1,uX hv.2 ha.2 e2⟩
 | .inr p::l,.inr x::xs,v::vs,hv,ha,y,e=>by
  simp only[X2.get,AMR,AL9]at e;obtain⟨a,e1,b,e2,rfl⟩:=e;obtain⟨⟨us,hu,hus⟩,h2⟩:=hv;exact⟨⟨us,hu,nv k hus ha.1 e1⟩,uX h2 ha.2 e2⟩
 | .inl _::_,.inr _::_,_,_,ha,_,_=>ha.1.elim
 | .inr _::_,.inl _::_,_,_,ha,_,_=>ha.1.elim
 |[],[],_::_,hv,_,_,_=>hv.elim
 |_::_,_::_,[],hv,_,_,_=>hv.elim
 |[],_::_,_,_,ha,_,_=>ha.elim
 |_::_,[],_,_,ha,_,_=>ha.elim
theorem APQ{p:XP}{x:XV}{v:Value}(hv:XR E w bx x v)(ha:bO N m p x){y:p.V}(e:p.get bk x=some y):XR E1 w yF (p.mk id y) v:=by
 cases p with
 |c p=>cases x with
  |c x=>exact zn k hv ha (by grind[XP.get])
  |_=>exact ha.elim
 |agg l=>cases x with
  |agg xs=>
   obtain⟨vs,rfl,VO⟩:=hv;exact⟨vs,rfl,nv k VO ha (by grind[XP.get])⟩
  |_=>exact ha.elim
 |row r=>cases x with
  |agg xs=>
   obtain⟨vs,rfl,VO⟩:=hv;exact⟨vs,rfl,il k.within k.boxes k.st k.T VO (by grind[XP.get])⟩
  |_=>exact ha.elim
 |Me l=>cases x with
  |Me xs=>
   obtain⟨vs,rfl,VO⟩:=hv;exact⟨vs,rfl,uX k VO ha (by grind[XP.get])⟩
  |_=>exact ha.elim
theorem sN{tm:List XV}{vals:List Value}(htm:Ca (XR E w bx) tm vals):∀{l:List (Nat×XP)},(∀q∈l,∃x,tm[q.1]? =some x∧bO N m q.2 x)→ ∀{y:G5.V l},G5.get bk tm l=some y→
  OB E1 w yF id l y vals
 |[],_,_,_=>trivial
 |(i,p)::l,ha,y,e=>by
  obtain⟨x,hx,hax⟩:=ha (i,p) (by simp);simp only[G5.get,hx,AMR,AL9]at e;obtain⟨a,e1,b,e2,rfl⟩:=e;obtain⟨v,hv,hr⟩:=htm.get hx;exact⟨⟨v,hv,APQ k hr hax e1⟩,sN htm (fun q hq=>ha q (by simp[hq])) e2⟩
end
structure uQ (E:Env) (w:World) (bx:List Bx) (m:Pc) (s:BZ) (x:s.V) (vals:List Value) (E1:Env):Prop where
 boxes:DD E1 w (Jl.mk id s.Gz x.2) (Jl.mk id s.Gz x.2) []
 D3:OB E1 w (Jl.mk id s.Gz x.2) id s.D3 x.1 vals
 ids:∀(i b:Nat),m[i]? =some (some b)→E1.H0 i=E.H0 b∧E1.H3 i=E.H3 b
 inj:qE m
 len:m.length=s.Gz.length
 S:∀c,E.S c→E1.S c
 Sof:∀c,E1.S c→E.S c∨ ¬E.T c
 T:∀c,E.T c→E1.T c
 rest:∃Fk,NG E w bx (Cz bx m) Fk∧Fk.flatten.Nodup∧(∀c∈Fk.flatten,¬E.T c∧ ¬E1.S c∧c<w.heap.size∧E1.T c)∧(∀c,E1.T c→E.T c∨E1.S c∨c∈Fk.flatten)
theorem lP{E:Env}{w:World}{bx:List Bx}{tm:List XV}{vals:List Value}(hB:DD E w bx bx [])(htm:Ca (XR E w bx) tm vals){s:BZ}{m0 m:Pc}{x:s.V}
  {N:Nat} (uc:∀(i:Nat) d r,s.Gz[i]? =some (.sl d r)→E.H3 (N+i)= .slice none 0 0) (hlen:m0.length=s.Gz.length) (AGo:qE m0) (e:s.fit N m0 tm bx=some (x,m)):Ext m0 m∧ ∃E1,uQ E w bx m s x vals E1:=by
 simp only[BZ.fit,AMR,AL9]at e;obtain⟨m1,e1,m2,e2,a,e3,c,e4,e5⟩:=e;cases e5;obtain⟨a1,a2,a3⟩:=di e1;obtain⟨b1,b2,b4,b3⟩:=WA e2;have hi:qE m:=b3 (a3 AGo);have vf:m.length=s.Gz.length:=by rw[b1.1,a1.1,hlen]
 refine⟨a1.trans b1,?_⟩;obtain⟨Gs,g1,g2,g3⟩:=nu hi hB;obtain⟨q1,q2⟩:=Ro (Jf:=id) e4;have st:=hB.st
 let R:Nat→List Nat→List Nat→List Nat→Prop:=fun k G F W=>
  match s.Gz[k]? with
  |some (.sl d r)=> ∀(b d':Nat) (rows:List r.D),m[k]? =some (some b)→bx[b]? =some (.sl d' r rows)→Ow w (fun c=>E.S c∨c∈W) d (.sl r) [E.H3 b] rows F
  |some (.mem q)=>F=G∧W=[]
  |_=>F=[]∧W=G
 have ARv:∀(k:Nat) G,Gs[k]? =some G→ ∃F W,G.Perm (F++W)∧R (0+k) G F W:=by
  intro k G hG;rw[ATf];have hk:k<s.Gz.length:=by
   grind
  have hp:s.Gz[k]? =some s.Gz[k]:=ALR hk;cases hb:s.Gz[k]with
  |mem q=>exact⟨G,[],by simp,by grind⟩
  |gone=>exact⟨[],G,by simp,by grind⟩
  |sl d r=>
   obtain⟨y,y1,b,d',y2,y3,y4,y5⟩:=q2 k _ (hp.trans (by rw[hb]));obtain⟨_,ho⟩:=g2 k b _ G y2 y3 hG;grind[J9]
 obtain⟨Fs,Ws,f1,f2,f3,f4⟩:=pn Gs 0 ARv;obtain⟨Fk,k1,k2⟩:=g3;simp only[AM3]at k2;have Z6:Sep E w (Fk.flatten++(Fs.flatten++Ws.flatten)):=k2.perm (AWT _ f3)
 let E1:Env:={
   H0:=fun i=>match m[i]? with|some (some b)=>E.H0 b|_=>0
   H3:=fun i=>match m[i]? with|some (some b)=>E.H3 b|_=> .nilFunc
   S:=fun c=>E.S c∨c∈Ws.flatten
   T:=fun c=>E.T c∨c∈Ws.flatten∨c∈Fk.flatten }
 have ADk:∀(i b:Nat),m[i]? =some (some b)→E1.H0 i=E.H0 b∧E1.H3 i=E.H3 b:=fun i b h=>by grind
 have fe:AGD N E w bx (Cz bx m) Fk m E1 (Jl.mk id s.Gz c):={
  within:=Ri (FM.refl bx)
  boxes:=k1
  st:=st
  T:=fun d hd=>hd.elim .inl fun h=> .inr (.inr h)
  S:=fun d hd=> .inl hd
  ids:=ADk
  len:=by omega
  nil:=fun i d r rows e=>by
   have hk:i<s.Gz.length:=by
    grind
   obtain⟨y,y1,_⟩:=q2 i _ (ALR hk);have hp:=ALR hk;rw[e]at y1
   generalize s.Gz[i]=P at y y1 hp
   cases P with
   |mem q=>cases y1
   |gone=>cases y1
   |sl d0 r0=>grind
  sl:=fun i d r rows hi e=>by
   have hk:i<s.Gz.length:=by omega
   obtain⟨y,y1,y2⟩:=q2 i _ (ALR hk);rw[e]at y1
   generalize s.Gz[i]=P at y y1 y2
   cases P with
   |mem q=>cases y1
   |gone=>cases y1
   |sl d0 r0=>
    simp only[BP.mk,ALt,Bx.sl.injEq]at y1;grind }
 have nd:=Z6.nodup;have AEU:∀c∈Fs.flatten,¬E1.T c:=by
  intro d hd h;rcases h with h|h|h
  ·exact Z6.free d (by simp[hd]) h
  all_goals grind
 have AQ8:OB E1 w (Jl.mk id s.Gz c) id s.D3 a vals:=sN fe htm (fun q hq=>let⟨x,h1,h2⟩:=a2 q hq;⟨x,h1,bO.ext b1 h2⟩) e3;refine⟨E1,uQ.mk ?_ AQ8 ADk hi vf (fun d hd=> .inl hd) ?_ (fun d hd=> .inl hd) ⟨Fk,k1,(AM6.1 nd).1,fun d hd=>⟨Z6.free d (by simp[hd]),?_,Z6.lt d (by simp[hd]),.inr (.inr hd)⟩,?_⟩⟩
 ·refine⟨Fs,⟨by simp_all,fun k B F hk hF=> ?_⟩,?_⟩
  ·have hkl:k<s.Gz.length:=by
    grind
   have hp:s.Gz[k]? =some s.Gz[k]:=ALR hkl;obtain⟨y,y1,y2⟩:=q2 k _ hp;rw[hk]at y1;cases y1;have hG:Gs[k]? =some (Gs[k]'(by omega)):=ALR _;have hW:Ws[k]? =some (Ws[k]'(by omega)):=ALR _;have hr:=f4 k _ F _ hG hF hW;rw[ATf]at hr;have AVH:∀d∈Ws[k]'(by omega),d∈Ws.flatten:=fun d hd=>ASW.2 ⟨_,ANe hW,hd⟩
   generalize AfJ:s.Gz[k]=P at y y2 hp
   have AVe:=fun q=>b2 k q
   simp only[R,hp]at hr;cases P with
   |mem q=>
    obtain⟨b,cs,z1,z2,z3⟩:=y2;obtain⟨rfl,hW0⟩:=hr;obtain⟨hFe,arr,ty,fr,h1,h2,h3⟩:=g2 k b _ _ z1 z2 hG;obtain⟨b',dx,t1,t2,t3⟩:=AVe q hp;rw[ATf,z1]at t1;cases t1;rw[z2]at t2;cases t2;refine⟨by simp_all,arr,ty,fr,by simp_all,h2,nv fe h3 t3 z3⟩
   |sl d r=>
    obtain⟨b,d',z1,z2,z3,z4⟩:=y2;have:=hr b d' y z1 z2;refine⟨z3,?_⟩;rw[(ADk k b z1).2];exact Eb (fun d hd=>hd.elim .inl fun h=> .inr (AVH d h)) (fun _ _=>rfl) (fun _ _=>rfl) this
   |gone=>exact hr.1
  ·simp only[AM3]
   refine⟨(AM6.1 (AM6.1 nd).2.1).1,AEU,fun d hd=>Z6.lt d (by simp[hd]),fun d hd=>hd.elim (fun h=> .inl (st d h)) (fun h=> .inr (.inl h)),fun d hd=> ?_⟩;rcases hd with hd|hd|hd
   ·exact Z6.cf d hd
   ·exact Z6.lt d (by simp[hd])
   ·exact Z6.lt d (by simp[hd])
 ·intro d hd
  exact hd.elim .inl fun h=> .inr (Z6.free d (by simp[h]))
 ·intro h
  rcases h with h|h
  ·exact Z6.free d (by simp[hd]) (st d h)
  grind
 grind
end Go.Fw
end
section
namespace Go.Fw
def zv:Ty→Value
 | .int k=> .int k 0
 | .bool=> .bool false
 | .str=> .string ⟨#[]⟩
 |_=> .slice none 0 0
def Et:Ty→List Value
 | .cons c r=>zv c::Et r
 | .unit=>[]
 |t=>[zv t]
def Ty.cell:Ty→Bool
 | .unit| .cons _ _=>false
 |_=>true
def Ty.ta:Ty→Bool
 | .cons c r=>c.cell&&r.ta
 |_=>true
def eqZ:Value→Value→Bool
 | .int k n,.int k' n' =>decide (k=k')&&decide (n=n')
 | .bool a,.bool b=>decide (a=b)
 | .string a,.string b=>decide (a.data.toList=[])&&decide (b.data.toList=[])
 | .slice none a b,.slice none c d=>decide (a=c)&&decide (b=d)
 |_,_=>false
theorem AO9{a b:Value}(h:eqZ a b=true):a=b:=by
 unfold eqZ at h;split at h
 ·simp_all
 ·simp_all
 ·rename_i a b
  simp at h;obtain⟨h1,h2⟩:=h;cases a;cases b;simp_all
 all_goals simp_all
def AC7:List Value→List Value→Bool
 |[],[]=>true
 |a::l,b::m=>eqZ a b&&AC7 l m
 |_,_=>false
theorem AAK:∀{l m:List Value},AC7 l m=true→l=m
 |[],[],_=>rfl
 |a::l,b::m,h=>by
  simp only[AC7,AMC]at h;rw[AO9 h.1,AAK h.2]
 |[],_::_,h=>by simp[AC7]at h
 |_::_,[],h=>by simp[AC7]at h
def gJ(P:Program)(t:Nat):TD→Prop
 | .int k=>P.underlying t=some (.int k)
 | .bool=>P.underlying t=some .bool
 | .str=>P.underlying t=some .string
 | .sl e=>P.underlying t=some (.slice e)
 | .ptr e=>P.underlying t=some (.pointer e)
 | .st fs=> ∃fields,P.underlying t=some (.struct fields)∧fields.toList.map (fun f=>(f.offset,f.type))=fs∧(∀f∈fields.toList,f.name≠ "_" ∧ ∃i,P.info? f.type=some i∧i.size≠0)∧
  P.stoodInHeld t=false∧P.eqGuardType P.depth t=false
 | .other=> ∃d,P.underlying t=some d∧d.isRow=false
structure AUq (P:Program) (T:Jp) (t:Nat) (ti:TI):Prop where
 info:∃i,P.info? t=some i∧i.size=ti.size∧i.bytes=ti.bytes∧(∀r,ti.row=some r→r.ta=true∧ ∃z,i.zero=some z∧z.cells.toList=Et r)
 und:gJ P t ti.desc
def Em(P:Program)(T:Jp):Prop:= ∀t ti,T.get t=some ti→AUq P T t ti
def u_(P:Program)(T:Jp)(t:Nat)(ti:TI):Bool:=
 (match P.info? t with
  |some i=>decide (i.size=ti.size)&&decide (i.bytes=ti.bytes)&&(match ti.row with
   |some r=>r.ta&&(match i.zero with
    |some z=>AC7 z.cells.toList (Et r)
    |none=>false)
   |none=>true)
  |none=>false)&&
 (match ti.desc,P.underlying t with
  | .int k,some (.int k')=>decide (k=k')
  | .bool,some .bool=>true
  | .str,some .string=>true
  | .sl e,some (.slice e')=>decide (e=e')
  | .ptr e,some (.pointer e')=>decide (e=e')
  | .st fs,some (.struct fields)=>decide (fields.toList.map (fun f=>(f.offset,f.type))=fs)&&
    fields.toList.all (fun f=>decide (f.name≠ "_")&&(match P.info? f.type with|some i=>decide (i.size≠0)|none=>false))&&
    !P.stoodInHeld t&& !P.eqGuardType P.depth t
  | .other,some d=> !d.isRow
  |_,_=>false)
theorem tg{P:Program}{T:Jp}{t:Nat}{ti:TI}(h:u_ P T t ti=true):AUq P T t ti:=by
 unfold u_ at h;rw[AMC]at h;obtain⟨h1,h2⟩:=h;constructor
 ·split at h1
  ·rename_i i hi
   simp only[AMC,AMi]at h1;refine⟨i,hi,h1.1.1,h1.1.2,fun r hr=> ?_⟩;obtain⟨_,h3⟩:=h1;rw[hr]at h3;dsimp only at h3;rw[AMC]at h3;grind[AAK]
  simp_all
 ·split at h2
  ·grind[gJ]
  ·grind[gJ]
  ·grind[gJ]
  ·grind[gJ]
  ·grind[gJ]
  ·rename_i fs fields hd hu
   simp only[hd,gJ];grind
  all_goals grind[gJ]
def ADi(P:Program)(T:Jp):Bool:=T.all fun q=>u_ P T q.1 q.2
theorem Jp.get_mem:∀{T:Jp} {t:Nat} {ti:TI},T.get t=some ti→(t,ti)∈T
 |(u,i)::l,t,ti,h=>by
  simp only[Jp.get]at h;split at h
  ·rename_i e;cases h;subst e;simp
  ·exact AXi _ (Jp.get_mem h)
 |[],_,_,h=>by simp[Jp.get]at h
theorem qL{P:Program}{T:Jp}(h:ADi P T=true):Em P T:=fun t ti e=>
 tg (by simpa using ATg.1 h (t,ti) (Jp.get_mem e))
section
variable{P:Program} {T:Jp} (hT:Em P T)
include hT
theorem Em.size{t:Nat}{ti:TI}(e:T.get t=some ti):(P.info? t).map (·.size)=some ti.size:=by
 obtain⟨i,h1,h2,_⟩:=(hT t ti e).info;simp_all
theorem Em.sizeOf{t:Nat}{ti:TI}(e:T.get t=some ti)(w:World):(Go.sizeOf t).run P w= .ok ti.size w:=by
 obtain⟨i,h1,h2,_⟩:=(hT t ti e).info;simp[Go.sizeOf,typeInfo,h1,h2]
omit hT in
theorem Ba{t:Nat}{d:TypeDesc}(h:P.underlying t=some d)(w:World):(Go.underlying t).run P w= .ok d w:=by
 simp[Go.underlying,h]
theorem Em.isAgg{t:Nat}{ti:TI}(e:T.get t=some ti)(w:World):(Go.isAgg t).run P w= .ok ti.desc.agg w:=by
 have hu:=(hT t ti e).und;unfold Go.isAgg;cases hd:ti.desc<;>rw[hd]at hu<;>simp only[gJ]at hu
 case st fs=>
  obtain⟨fields,hu,_⟩:=hu;simp[Ba hu,TD.agg]
 case other=>
  obtain⟨d,hu,hd⟩:=hu;rw[Sem.run_bind,Ba hu];cases d<;>simp_all[TypeDesc.isRow,TD.agg]
 all_goals simp[Ba hu,TD.agg]
end
end Go.Fw
end
section
namespace Go.Fw
def LH{Y:Type}(P:Program)(o:Oper)(E:Env)(σ:St)(a:Act)(w:World)(k:K Y)(y:Y):Prop:=
 ∃v w' E' x σ',((execOp a.eval o).run P w= .ok (.value v) w'∨((execOp a.eval o).run P w= .ok .skip w'∧v=undef))∧Rel E' σ' a w'∧XR E' w' σ'.bx x v∧RJ (KS (fun _=>none) σ o.op) E σ.bx w E' σ'.bx w'∧
  σ'.tm.length=σ.tm.length∧k x σ' =some y
section
variable{Y:Type} {P:Program} {T:Jp} {o:Oper} {E:Env} {σ:St} {a:Act} {w:World} {k:K Y} {y:Y}
theorem LH.same(h:Rel E σ a w){v:Value}{x:XV}(hr:(execOp a.eval o).run P w= .ok (.value v) w)(hx:XR E w σ.bx x v)(hk:k x σ=some y):LH P o E σ a w k y:=
 ⟨v,w,E,x,σ,.inl hr,h,hx,RJ.refl _ E σ.bx w,rfl,hk⟩
theorem aq{vw:List Bx}{κ:IntKind}{n:Int}{v:Value}(h:VR E w vw (.v (.int κ) n) v):v= .int κ n:=by
 have:=h.2;grind[Rd]
theorem SN{vw:List Bx}{b:Bool}{v:Value}(h:VR E w vw (.v .bool b) v):v= .bool b:=by
 have:=h.2;grind[Rd]
theorem W4{vw:List Bx}{s:ACD}{v:Value}(h:VR E w vw (.v .str s) v):v= .string ⟨s.toArray⟩:=by
 have:=h.2;grind[Rd]
theorem VR.int{vw:List Bx}(κ:IntKind)(n:Int):VR E w vw (.v (.int κ) n) (.int κ n):=⟨rfl,by rfl⟩
theorem VR.bool{vw:List Bx}(b:Bool):VR E w vw (.v .bool b) (.bool b):=⟨rfl,by rfl⟩
theorem VR.str{vw:List Bx}(s:ACD):VR E w vw (.v .str s) (.string ⟨s.toArray⟩):=⟨rfl,by rfl⟩
theorem Vw(s:ACD):ByteArray.toList ⟨s.toArray⟩=s:=by
 simp_all
theorem vO(a b:ACD):(⟨a.toArray⟩:ByteArray)++⟨b.toArray⟩=⟨(a++b).toArray⟩:=by
 rfl
theorem vi(op:BinOp)(t:TypeId)(x y:Operand)(u v:Value)(hu:∀l,u≠ .agg l)(hn:u≠ .nilIface)(w:World):(eqGuard op t x y u v).run P w= .ok () w:=by
 unfold eqGuard;simp_all
theorem wG{op:BinOp}{κ:IntKind}{m n:Int}{k:AV→Option Y}{y:Y}(e:fc op κ m n k=some y)(t:TypeId)(w:World):
  ∃z v,k z=some y∧(binOp op t (.int κ m) (.int κ n)).run P w= .ok v w∧ ∀E vw,VR E w vw z v:=by
 cases op with
 |add=>exact⟨_,.int κ (κ.wrap (m+n)),e,by simp[binOp,Op.intArith],fun _ _=>VR.int _ _⟩
 |sub=>exact⟨_,.int κ (κ.wrap (m-n)),e,by simp[binOp,Op.intArith],fun _ _=>VR.int _ _⟩
 |mul=>exact⟨_,.int κ (κ.wrap (m*n)),e,by simp[binOp,Op.intArith],fun _ _=>VR.int _ _⟩
 |and=>exact⟨_,.int κ (κ.wrap (BitVec.ofInt κ.bits m &&& BitVec.ofInt κ.bits n).toNat),e,by simp[binOp,Op.intBits],fun _ _=>VR.int _ _⟩
 |or=>exact⟨_,.int κ (κ.wrap (BitVec.ofInt κ.bits m ||| BitVec.ofInt κ.bits n).toNat),e,by simp[binOp,Op.intBits],fun _ _=>VR.int _ _⟩
 |xor=>exact⟨_,.int κ (κ.wrap (BitVec.ofInt κ.bits m ^^^ BitVec.ofInt κ.bits n).toNat),e,by simp[binOp,Op.intBits],fun _ _=>VR.int _ _⟩
 |andNot=>exact⟨_,.int κ (κ.wrap (BitVec.ofInt κ.bits m &&& ~~~BitVec.ofInt κ.bits n).toNat),e,by simp[binOp,Op.intBits],fun _ _=>VR.int _ _⟩
 |eql=>exact⟨_,.bool (m==n),e,by simp[binOp,Op.intCmp],fun _ _=>VR.bool _⟩
 |neq=>exact⟨_,.bool (m !=n),e,by simp[binOp,Op.intCmp],fun _ _=>VR.bool _⟩
 |lss=>exact⟨_,.bool (decide (m<n)),e,by simp[binOp,Op.intCmp],fun _ _=>VR.bool _⟩
 |leq=>exact⟨_,.bool (decide (m≤n)),e,by simp[binOp,Op.intCmp],fun _ _=>VR.bool _⟩
 |gtr=>exact⟨_,.bool (decide (m>n)),e,by simp[binOp,Op.intCmp],fun _ _=>VR.bool _⟩
 |geq=>exact⟨_,.bool (decide (m≥n)),e,by simp[binOp,Op.intCmp],fun _ _=>VR.bool _⟩
 |quo=>
  simp only[fc]at e;split at e
  ·cases e
  ·rename_i hz
   exact⟨_,.int κ (κ.wrap (m.tdiv n)),e,by simp[binOp,Op.intDiv,hz],fun _ _=>VR.int _ _⟩
 |rem=>
  simp only[fc]at e;split at e
  ·cases e
  ·rename_i hz
   exact⟨_,.int κ (m.tmod n),e,by simp[binOp,Op.intDiv,hz],fun _ _=>VR.int _ _⟩
 |_=>simp[fc]at e
theorem fM{op:BinOp}{κ κ':IntKind}{m n:Int}{k:AV→Option Y}{y:Y}(e:Yy op κ m n k=some y)(t:TypeId)(w:World):
  ∃z v,k z=some y∧(binOp op t (.int κ m) (.int κ' n)).run P w= .ok v w∧ ∀E vw,VR E w vw z v:=by
 unfold Yy at e;split at e
 ·cases e
 ·rename_i hn
  cases op with
  |shl=>exact⟨_,.int κ (κ.wrap (m*2^min n.toNat κ.bits)),e,by simp[binOp,Op.shift,hn],fun _ _=>VR.int _ _⟩
  |shr=>exact⟨_,.int κ (m.fdiv (2^min n.toNat κ.bits)),e,by simp[binOp,Op.shift,hn],fun _ _=>VR.int _ _⟩
  |_=>simp at e
theorem xh{op:BinOp}{s u:ACD}{k:AV→Option Y}{y:Y}(e:iQ op s u k=some y)(t:TypeId)(w:World):
  ∃z v,k z=some y∧(binOp op t (.string ⟨s.toArray⟩) (.string ⟨u.toArray⟩)).run P w= .ok v w∧ ∀E vw,VR E w vw z v:=by
 have h1:=Vw s;have h2:=Vw u;cases op with
 |eql=>exact⟨_,.bool (s==u),e,by simp[binOp,Op.stringOp,h1,h2],fun _ _=>VR.bool _⟩
 |neq=>exact⟨_,.bool (!(s==u)),e,by simp[binOp,Op.stringOp,h1,h2],fun _ _=>VR.bool _⟩
 |lss=>exact⟨_,.bool (Op.bytesLess s u),e,by simp[binOp,Op.stringOp,h1,h2],fun _ _=>VR.bool _⟩
 |leq=>exact⟨_,.bool (Op.bytesLess s u||s==u),e,by simp[binOp,Op.stringOp,h1,h2],fun _ _=>VR.bool _⟩
 |gtr=>exact⟨_,.bool (!(Op.bytesLess s u||s==u)),e,by simp[binOp,Op.stringOp,h1,h2],fun _ _=>VR.bool _⟩
 |geq=>exact⟨_,.bool (!Op.bytesLess s u),e,by simp[binOp,Op.stringOp,h1,h2],fun _ _=>VR.bool _⟩
 |add=>
  simp only[iQ]at e;split at e
  ·rename_i hl
   refine⟨_,.string ⟨(s++u).toArray⟩,e,?_,fun _ _=>VR.str _⟩;have hs:(⟨s.toArray⟩:ByteArray).size=s.length:=by rfl
   have hu:(⟨u.toArray⟩:ByteArray).size=u.length:=by rfl
   have Xx: ¬(((⟨s.toArray⟩:ByteArray).size+(⟨u.toArray⟩:ByteArray).size:Nat):Int)>IntKind.i64.max:=by
    grind[Dw,IntKind.max,IntKind.signed,IntKind.bits]
   simp only[binOp,Op.stringOp,Sem.run_ite,ALo Xx,vO];rfl
  simp_all
 |_=>simp[iQ]at e
theorem vJ{d:TD}{x z:AV}{p:Bool}(e:pj d x z=some p){E:Env}{w:World}{vw:List Bx}{v u:Value}(hx:VR E w vw x v)(hz:VR E w vw z u){t:TypeId}
  (hu:gJ P t d) (n:Nat):(Op.equalIn (n+1) t v u).run P w= .ok p w∧d.agg=false:=by
 unfold pj at e;split at e
 ·rename_i κ j a k b
  split at e
  ·rename_i hj
   subst hj;cases e;rw[aq hx,aq hz];exact⟨run_equalIn_int (P:=P) w n t j κ a b hu,rfl⟩
  simp_all
 ·cases e
  rw[SN hx,SN hz];exact⟨run_equalIn_bool' (P:=P) w n t _ _ hu,rfl⟩
 ·cases e
  rename_i a b;rw[W4 hx,W4 hz];have q:=run_equalIn_string (P:=P) w n t ⟨a.toArray⟩ ⟨b.toArray⟩ hu;rw[Vw,Vw]at q;exact⟨q,rfl⟩
 simp_all
theorem fN{T:Jp}(hT:Em P T){E:Env}{w:World}{vw:List Bx}{xs ys:Array Value}:∀{fields:List Field} {i:Nat} {l m:List AV} {vs us:List Value} {r:Bool},
  (∀f∈fields,f.name≠ "_")→iy E w vw l vs→iy E w vw m us→Kp T i (fields.map fun f=>(f.offset,f.type)) l m=some r→
  (∀(j:Nat) v,vs[j]? =some v→xs[i+j]? =some v)→(∀(j:Nat) v,us[j]? =some v→ys[i+j]? =some v)→(Op.eqFields 9999 xs ys fields).run P w= .ok r w
 |[],i,[],[],_,_,r,_,_,_,e,_,_=>by
  simp only[AXU,Kp,ALt]at e;subst e;rfl
 |f::fs,i,x::l,z::m,v::vs,u::us,r,hn,hx,hz,e,h1,h2=>by
  simp only[AUm,Kp]at e;split at e
  case isFalse=>cases e
  rename_i ho;have hv:=h1 0 v rfl;have hu:=h2 0 u rfl;simp only[ATu]at hv hu;have AVG:=hn f (by simp);split at e
  case h_2=>cases e
  rename_i ti Uv;split at e
  case h_2=>cases e
  rename_i p hp;simp only[AL9]at e;obtain⟨r',e',rfl⟩:=e;have Aaa:=fN hT (fields:=fs) (i:=i+1) (l:=l) (m:=m) (vs:=vs) (us:=us) (r:=r') (fun f hf=>hn f (by simp[hf])) hx.2 hz.2 e'
   (fun j v' hj=>by have:=h1 (j+1) v' (by simp_all);rwa [show i+(j+1)=i+1+j by omega]at this)
   (fun j v' hj=>by have:=h2 (j+1) v' (by simp_all);rwa [show i+(j+1)=i+1+j by omega]at this)
  have ji:=(hT f.type ti Uv).und;obtain⟨q,na⟩:=vJ (P:=P) hp hx.1 hz.1 (t:=f.type) ji 9998;have jf:=Em.isAgg hT Uv w;rw[na]at jf;have p1:(part f.type xs f.offset).run P w= .ok v w:=by simp[part,jf,ho,hv]
  have p2:(part f.type ys f.offset).run P w= .ok u w:=by simp[part,jf,ho,hu]
  simp only[Op.eqFields,AVG,ne_eq,not_false_eq_true,ATK,Sem.run_bind,p1,p2,Result.andThen_ok,q,Aaa,Sem.run_ite,Sem.run_pure];grind
 |[],_,_::_,_,_,_,_,_,_,_,e,_,_=>by simp[Kp]at e
 |[],_,[],_::_,_,_,_,_,_,_,e,_,_=>by simp[Kp]at e
 |_::_,_,[],_,_,_,_,_,_,_,e,_,_=>by simp[Kp]at e
 |_::_,_,x::_,[],_,_,_,_,_,_,e,_,_=>by simp[Kp]at e
 |_::_,_,_::_,_::_,[],_,_,_,hx,_,_,_,_=>hx.elim
 |_::_,_,_::_,_::_,_::_,[],_,_,_,hz,_,_,_=>hz.elim
theorem pI(op:BinOp)(t:TypeId)(p q:Bool)(hu:P.underlying t=some .bool)(w:World):(op= .eql→(binOp op t (.bool p) (.bool q)).run P w= .ok (.bool (p==q)) w)∧
  (op= .neq→(binOp op t (.bool p) (.bool q)).run P w= .ok (.bool (!(p==q))) w):=by
 have h:=run_equalIn_bool' (P:=P) w 9999 t p q hu;constructor
 ·rintro rfl
  grind[binOp,Op.equal,Op.maxDepth,Sem.run_bind,Result.andThen_ok,Sem.run_pure]
 ·rintro rfl
  grind[binOp,Op.equal,Op.maxDepth,Sem.run_bind,Result.andThen_ok,Sem.run_pure]
theorem gz{T:Jp}(hT:Em P T){t:Nat}{op:BinOp}{x z:XV}{k:AV→Option Y}{y:Y}(e:wN T t op x z k=some y){E:Env}{w:World}{vw:List Bx}{v u:Value}
  (hx:XR E w vw x v) (hz:XR E w vw z u) (ox oz:Operand):
  ∃r val,k r=some y∧(do eqGuard op t ox oz v u;binOp op t v u:Sem Value).run P w= .ok val w∧VR E w vw r val:=by
 have guard:∀(v u:Value),(∀l,v≠ .agg l)→v≠ .nilIface→ ∀val,(binOp op t v u).run P w= .ok val w→(do eqGuard op t ox oz v u;binOp op t v u:Sem Value).run P w= .ok val w:=by
  grind[Sem.run_bind,vi,Result.andThen_ok]
 unfold wN at e;split at e
 ·rename_i j m j' n
  have hv:=aq (E:=E) (vw:=vw) hx;have hu:=aq (E:=E) (vw:=vw) hz;subst hv hu;have done:∀(q:∃r val,k r=some y∧(binOp op t (.int j m) (.int j' n)).run P w= .ok val w∧ ∀E vw,VR E w vw r val),∃r val,k r=some y∧(do eqGuard op t ox oz (.int j m) (.int j' n);binOp op t (.int j m) (.int j' n):Sem Value).run P w= .ok val w∧VR E w vw r val:=by
   grind
  split at e
  ·exact done (fM e t w)
  ·exact done (fM e t w)
  ·split at e
   ·rename_i hj
    subst hj;exact done (wG e t w)
   simp_all
 ·rename_i s s'
  have hv:=W4 (E:=E) (vw:=vw) hx;have hu:=W4 (E:=E) (vw:=vw) hz;subst hv hu;obtain⟨r,val,h1,h2,h3⟩:=xh (P:=P) e t w;grind
 ·rename_i p q
  have hv:=SN (E:=E) (vw:=vw) hx;have hu:=SN (E:=E) (vw:=vw) hz;subst hv hu;split at e
  ·rename_i ti Uv
   have ji:=(hT t ti Uv).und;split at e
   ·rename_i hd
    rw[hd]at ji;split at e
    ·exact⟨_,_,e,guard _ _ (by simp) (by simp) _ ((pI _ t p q ji w).1 rfl),VR.bool _⟩
    ·exact⟨_,_,e,guard _ _ (by simp) (by simp) _ ((pI _ t p q ji w).2 rfl),VR.bool _⟩
    simp_all
   simp_all
  simp_all
 ·rename_i l m
  obtain⟨vs,rfl,VO⟩:=hx;obtain⟨us,rfl,hus⟩:=hz;have key:∀r,((T.fields t).bind fun fs=>Kp T 0 fs l m)=some r→(Op.equalIn 10000 t (.agg vs) (.agg us)).run P w= .ok r w∧P.eqGuardType P.depth t=false:=by
   intro r hr;simp only[AMR]at hr;obtain⟨fs,hf,hr⟩:=hr;unfold Jp.fields at hf;split at hf
   ·rename_i fs' hd
    cases hf;simp only[AL9]at hd;obtain⟨ti,Uv,hd⟩:=hd;have ji:=(hT t ti Uv).und;rw[hd]at ji;obtain⟨fields,hu,hfs,sj,fO,hg⟩:=ji;grind[Program.fieldsOf,run_equalIn_agg,fN]
   simp_all
  split at e
  ·rename_i r hr
   obtain⟨q,hg⟩:=key r hr;refine⟨_,_,e,?_,VR.bool r⟩;grind[Sem.run_bind,run_eqGuard_agg,Result.andThen_ok,run_eql_struct]
  ·rename_i r hr
   obtain⟨q,hg⟩:=key r hr;refine⟨_,_,e,?_,VR.bool (!r)⟩;grind[Sem.run_bind,run_eqGuard_agg,Result.andThen_ok,run_neq_struct]
  simp_all
 simp_all
end
end Go.Fw
end
section
namespace Go.Fw
section
variable{Y:Type} {P:Program} {T:Jp} (hT:Em P T) {E:Env} {w:World} {vw:List Bx}
include hT
theorem AHR{t:Nat}{s b:Nat}{fs:List ADE}{rw:Option Ty}(e:T.get t=some ⟨s,b,.st fs,rw⟩):∃fields,P.underlying t=some (.struct fields)∧fields.toList.map (fun f=>(f.offset,f.type))=fs∧
  ∀f∈fields.toList,∃i,P.info? f.type=some i∧i.size≠0:=by
 obtain⟨fields,h1,h2,h3,_⟩:=(hT t _ e).und;simp_all
omit hT in
theorem qA{a:Addr}{f:Field}(h:∃i,P.info? f.type=some i∧i.size≠0):(fieldPlace a f).run P w= .ok (a.add f.offset) w:=by
 obtain⟨i,h1,h2⟩:=h;simp[fieldPlace,Go.sizeOf,typeInfo,h1,h2]
theorem Uu{t:Nat}{s b:Nat}{fs:List ADE}{rw:Option Ty}(e:T.get t=some ⟨s,b,.st fs,rw⟩){f o u:Nat}(hf:fs[f]? =some (o,u)){a:Addr}:
  (Instr.fieldAt t (.pointer (some a)) f).run P w= .ok (.pointer (some (a.add o))) w:=by
 obtain⟨fields,h1,h2,h3⟩:=AHR hT e;subst h2;simp only[AQt,AL9]at hf;obtain⟨fld,xw,he⟩:=hf;have hm:=ANe xw;have hfa:fields[f]? =some fld:=by simp_all
 simp only[APo]at he;simp[Instr.fieldAt,Ba h1,hfa,Instr.sureAddr,qA (h3 fld hm),he.1]
theorem ie{t:Nat}{x z:XV}{f:Nat}(e:uy T t x f=some z){v:Value}(hx:XR E w vw x v):∃u,(Instr.fieldAt t v f).run P w= .ok u w∧XR E w vw z u:=by
 unfold uy at e;split at e
 case h_2=>cases e
 rename_i s b fs _ Uv;split at e
 case h_2=>cases e
 rename_i o u hf;split at e
 ·rename_i b' j
  cases e;obtain⟨h1,rfl⟩:=hx;exact⟨_,Uu hT Uv hf,h1,by rw[Addr.add_eq]⟩
 ·rename_i b' p i sz j
  cases e;obtain⟨h0,h1⟩:=hx;cases v with
  |pointer oa=>
   cases oa with
   |none=>simp[cC]at h0
   |some a=>
    obtain⟨ab,ao,sp⟩:=a;cases sp with
    |some _=>simp[cC]at h0
    |none=>
     refine⟨_,Uu hT Uv hf,by rw[Addr.add_eq];rfl,?_⟩;revert h1;split
     ·rintro⟨hp,q,ys,bb,o',len,cap,g1,g2,g3,g4⟩
      refine⟨hp,q,ys,bb,o',len,cap,g1,g2,g3,?_⟩;simp only[Value.pointer.injEq,ALt,Addr.mk.injEq,ATS]at g4;grind[Addr.add_eq,Nat.add_assoc]
     all_goals simp_all
  |_=>simp[cC]at h0
 ·rename_i s r y j
  cases e;obtain⟨bb,o',cs,rfl,h2,h3,h4,h5⟩:=hx;refine⟨_,Uu hT Uv hf,bb,o',cs,?_,h2,h3,h4,h5⟩;rw[Addr.add_eq,ATq]
 simp_all
theorem l9{t:Nat}{x z:XV}{f:Nat}(e:AFL T t x f=some z){v:Value}(hx:XR E w vw x v):∃u,(Instr.field t v f).run P w= .ok u w∧XR E w vw z u:=by
 unfold AFL at e;split at e
 case h_2=>cases e
 rename_i s b fs _ l Uv;obtain⟨vs,rfl,VO⟩:=hx;split at e
 case h_2=>cases e
 rename_i o u hf;split at e
 case h_2=>cases e
 rename_i ti htu;obtain⟨fields,h1,h2,h3⟩:=AHR hT Uv;subst h2;simp only[AQt,AL9]at hf;obtain⟨fld,xw,he⟩:=hf;have hfa:fields[f]? =some fld:=by simp_all
 simp only[APo]at he;obtain⟨rfl,rfl⟩:=he;have jf:=Em.isAgg hT htu w;have PN:=Em.sizeOf hT htu w;split at e
 ·rename_i ha
  cases e;rw[ha]at jf;refine⟨.agg (vs.extract fld.offset (fld.offset+ti.size)),?_,_,rfl,?_⟩
  ·simp[Instr.field,Ba h1,hfa,asAgg,part,jf,PN]
  ·have:(vs.extract fld.offset (fld.offset+ti.size)).toList=(vs.toList.drop fld.offset).take ti.size:=by
    simp_all
   rw[this];exact Ca.take _ (Ca.drop _ VO)
 ·rename_i ha
  simp only[APN]at ha;rw[ha]at jf;simp only[AL9]at e;obtain⟨y,hy,rfl⟩:=e;obtain⟨v,hv,hr⟩:=Ca.get VO hy;refine⟨v,?_,hr⟩;have:vs[fld.offset]? =some v:=by simp_all
  simp[Instr.field,Ba h1,hfa,asAgg,part,jf,this]
theorem KX{t:Nat}{r:Ty}(h:T.ND t r=true):∃e ti,P.underlying t=some (.slice e)∧T.get e=some ti∧ti.size=r.n∧ti.bytes≤512∧ti.row=some r:=by
 unfold Jp.ND at h;split at h
 ·rename_i ti Uv
  simp only[AMC,AMi]at h;unfold Jp.elem at Uv;split at Uv
  ·rename_i e hd
   simp only[AL9]at hd;obtain⟨tj,h1,h2⟩:=hd;have:=(hT t tj h1).und;rw[h2]at this;exact⟨e,ti,this,Uv,h.1.1,h.1.2,h.2⟩
  simp_all
 simp_all
theorem Wx{t:Nat}(h:T.isStr t=true):P.underlying t=some .string:=by
 unfold Jp.isStr at h;split at h
 ·rename_i hd
  simp only[AL9]at hd;obtain⟨tj,h1,h2⟩:=hd;have:=(hT t tj h1).und;rw[h2]at this;exact this
 simp_all
theorem lO{t:Nat}(h:T.AKU t=true):∃e,P.underlying t=some (.slice e):=by
 unfold Jp.AKU at h;split at h
 ·rename_i e hd
  simp only[AL9]at hd;obtain⟨tj,h1,h2⟩:=hd;have:=(hT t tj h1).und;rw[h2]at this;exact⟨e,this⟩
 simp_all
omit hT in
theorem Ic{x:XV}{n:Int}(e:cq x=some n){v:Value}(hx:XR E w vw x v):∃κ,v= .int κ n:=by
 unfold cq at e;split at e
 ·cases e;exact⟨_,aq (E:=E) (w:=w) (vw:=vw) hx⟩
 ·cases e
theorem dC{t:Nat}{r:Ty}(h:T.ND t r=true){κ:IntKind}{i:Int}{a:Addr}{len cap:Nat}(h0:0≤i)(h1:i<(len:Int)):
  (Instr.indexAt t (.slice (some a) len cap) (.int κ i)).run P w= .ok (.pointer (some (a.add (i.toNat*r.n)))) w:=by
 obtain⟨e,ti,hu,Uv,hs,_⟩:=KX hT h;have PN:=Em.sizeOf hT Uv w;simp[Instr.indexAt,asIntOf,Ba hu,h0,h1,PN,hs]
omit hT in
theorem yH{bx:List Bx}{Fs:List ABJ}(hB:NG E w bx bx Fs)(st:∀c,E.S c→E.T c){x:AV}{v:Value}(hv:VR E w bx x v){q:Ty}{ys:List q.D}(e:NN bx x=some ⟨q,ys⟩):
  ∃a cap,v= .slice a ys.length cap∧ys.length≤cap∧(ys.length=0∨ ∃b o,a=some ⟨b,o,none⟩):=by
 have:=aF (FM.refl bx) hB st hv e;simp only[Rd]at this;obtain⟨a,cap,h1,h2,h3⟩:=this;simp only[AQY,ATS]at h1;exact⟨a,cap,h1,h2,h3.imp id fun⟨b,o,h,_⟩=>⟨b,o,h⟩⟩
theorem jn{σ:St}{Fs:List ABJ}(hB:NG E w σ.bx σ.bx Fs)(st:∀c,E.S c→E.T c){t:Nat}{x i:XV}{k:K Y}{y:Y}(e:ky σ T t x i k=some y){v u:Value}
  (hx:XR E w σ.bx x v) (hi:XR E w σ.bx i u):∃z val,k z σ=some y∧(Instr.indexAt t v u).run P w= .ok val w∧XR E w σ.bx z val:=by
 unfold ky at e;split at e
 ·rename_i s r rows n hn
  obtain⟨κ,rfl⟩:=Ic hn hi;split at e
  case isFalse=>cases e
  rename_i UR;split at e
  case isFalse=>cases e
  rename_i hb;obtain⟨h0,h1⟩:=hb;simp only[XR,VR,Rd]at hx;obtain⟨a,cap,hv,hl,hx⟩:=hx;simp only[AQY,ATS]at hv;subst hv;rcases hx with hx|⟨b,o,rfl,hb,hx⟩
  ·omega
  ·have Lu:n.toNat<rows.length:=by omega
   obtain⟨cs,c1,c2,c3⟩:=hx n.toNat _ (RC Lu);refine⟨_,_,e,dC hT UR h0 h1,b,o+n.toNat*r.n,cs,?_,by omega,c1,c2,by omega⟩;rw[Addr.add_eq];rfl
 ·rename_i b p n hn
  obtain⟨κ,rfl⟩:=Ic hn hi;split at e
  case h_2=>cases e
  rename_i q hq;split at e
  case isFalse=>cases e
  rename_i UR;split at e
  case isFalse=>cases e
  rename_i hb;obtain⟨h0,h1⟩:=hb
  change VR E w σ.bx (.ref b p) v at hx
  obtain⟨a,cap,rfl,hl,ha⟩:=yH hB st hx hq;rcases ha with ha|⟨b',o,rfl⟩
  ·omega
  ·refine⟨_,_,e,dC hT UR h0 h1,by rw[Addr.add_eq];rfl,?_⟩
   simp only[NN]at hq;obtain⟨_,hx⟩:=hx;grind[Addr.add_eq]
 ·rename_i b p off n' n hn
  obtain⟨κ,rfl⟩:=Ic hn hi;split at e
  case h_2=>cases e
  rename_i q hq;split at e
  case isFalse=>cases e
  rename_i UR;split at e
  case isFalse=>cases e
  rename_i hb;obtain⟨h0,h1⟩:=hb;simp only[NN]at hq;obtain⟨h00,hx⟩:=hx;revert hx;split
  ·rename_i d r rows vZ
   rw[vZ]at hq;dsimp only at hq
   rintro⟨hp,q',ys,a,len,cap,g1,g2,g3,rfl⟩
   have ZG:=dw (FM.refl _) hB st vZ hp g1 g3;simp only[Rd]at ZG;obtain⟨a',cap',ee,hle,ZG⟩:=ZG;simp only[AQY,Value.slice.injEq,ATS]at ee;obtain⟨rfl,rfl,rfl⟩:=ee;rcases ZG with ZG|⟨b',o,rfl,_,_⟩
   ·omega
   ·unfold U4
    rw[ALo (by omega)];have hq1:q.1=q':=by
     grind
    refine⟨_,_,e,dC hT UR h0 h1,by simp only[Option.map];rw[Addr.add_eq,Addr.add_eq];rfl,?_⟩;grind[Addr.add_eq,Nat.add_assoc,Nat.add_mul]
  all_goals simp_all
 simp_all
theorem bt{σ:St}{t:Nat}{x i:XV}{k:K Y}{y:Y}(e:WT T t σ x i k=some y){v u:Value}(hx:XR E w vw x v)(hi:XR E w vw i u):
  ∃z val,k z σ=some y∧(Instr.index t v u).run P w= .ok val w∧XR E w vw z val:=by
 unfold WT at e;split at e
 ·rename_i s n hn
  obtain⟨κ,rfl⟩:=Ic hn hi;have hv:=W4 (E:=E) (w:=w) (vw:=vw) hx;subst hv;split at e
  case isFalse=>cases e
  rename_i fO;split at e
  case isFalse=>cases e
  rename_i hb;obtain⟨h0,h1⟩:=hb;refine⟨_,.int .u8 ((s.getD n.toNat 0).toNat:Int),e,?_,VR.int (E:=E) (vw:=vw) _ _⟩;have Lu:n.toNat<s.length:=by omega
  have:(⟨s.toArray⟩:ByteArray)[n.toNat]? =some s[n.toNat]:=by
   rw[getElem?_pos _ _ (by grind[ByteArray.size])];rfl
  simp[Instr.index,asIntOf,Ba (Wx hT fO),h0,this,Lu]
 simp_all
omit hT in
theorem dz{x z:XV}{i:Nat}(e:pq x i=some z){v:Value}(hx:XR E w vw x v):∃u,(Instr.extract v i).run P w= .ok u w∧XR E w vw z u:=by
 unfold pq at e;split at e
 case h_2=>cases e
 rename_i l;obtain⟨vs,rfl,VO⟩:=hx;split at e
 ·rename_i x hx
  cases e;obtain⟨v,hv,hr⟩:=VO.get hx;have:vs[i]? =some v:=by simpa using hv
  exact⟨v,by simp[Instr.extract,this],hr⟩
 ·rename_i q hx
  cases e;obtain⟨v,hv,ws,rfl,hr⟩:=VO.get hx;have:vs[i]? =some (.agg ws):=by simpa using hv
  exact⟨.agg ws,by simp[Instr.extract,this],ws,rfl,hr⟩
 ·cases e
omit hT in
theorem mJ{bx:List Bx}{Fs:List ABJ}(hB:NG E w bx bx Fs)(st:∀c,E.S c→E.T c){x:AV}{n:Nat}(e:lenOf bx x=some n){v:Value}(hx:VR E w bx x v):
  ∃a cap,v= .slice a n cap:=by
 cases x with
 |nil=>simp only[lenOf,ALt]at e;subst e;exact⟨_,_,hx⟩
 |sl s r x=>
  simp only[lenOf,ALt]at e;subst e;simp only[VR,Rd]at hx;obtain⟨a,cap,h,_⟩:=hx;simp only[AQY,ATS]at h;exact⟨a,cap,h⟩
 |ref b p=>
  simp only[lenOf]at e;split at e
  ·rename_i d r rows hb
   simp only[AL9]at e;obtain⟨q,hq,rfl⟩:=e;obtain⟨a,cap,h,_⟩:=yH hB st hx (q:=q.1) (ys:=q.2) (by simp only[NN,hb];exact hq);exact⟨a,cap,h⟩
  ·cases e
 |win b p off m=>
  simp only[lenOf]at e;split at e
  ·rename_i d r rows hb
   cases e;simp only[VR,hb]at hx;obtain⟨_,_,q,ys,a,len,cap,_,_,_,rfl⟩:=hx;exact⟨_,_,rfl⟩
  ·cases e
 |_=>simp[lenOf]at e
omit hT in
theorem Ta{big:Bool}{x z:XV}{k:AV→Option Y}{y:Y}(e:tc big x z k=some y){v u:Value}(hx:XR E w vw x v)(hz:XR E w vw z u)(t s:Array TypeId)(tt:TypeId):
  ∃r val,k r=some y∧(if big then Builtin.max_ t tt #[v,u]else Builtin.min_ t tt #[v,u]).run P w= .ok val w∧VR E w vw r val:=by
 unfold tc at e;split at e
 ·rename_i j m j' n
  have hv:=aq (E:=E) (w:=w) (vw:=vw) hx;have hu:=aq (E:=E) (w:=w) (vw:=vw) hz;subst hv hu;split at e
  case isFalse=>cases e
  rename_i hj;subst hj;cases big with
  |true=>exact⟨_,.int j (if n>m then n else m),e,by simp[Builtin.max_,Builtin.max2],VR.int _ _⟩
  |false=>exact⟨_,.int j (if n<m then n else m),e,by simp[Builtin.min_,Builtin.min2],VR.int _ _⟩
 ·cases e
omit hT in
theorem kF{op:UnOp}{x:XV}{k:AV→Option Y}{y:Y}(e:unX op x k=some y){v:Value}(hx:XR E w vw x v):
  ∃r val,k r=some y∧(Op.unary op v).run P w= .ok val w∧VR E w vw r val:=by
 unfold unX at e;split at e
 ·have hv:=SN (E:=E) (w:=w) (vw:=vw) hx
  subst hv;exact⟨_,_,e,by simp[Op.unary],VR.bool _⟩
 ·rename_i j n
  have hv:=aq (E:=E) (w:=w) (vw:=vw) hx;subst hv;exact⟨_,.int j (j.wrap (0-n)),e,by simp[Op.unary,Op.intArith],VR.int _ _⟩
 ·cases e
end
end Go.Fw
end
section
namespace Go.Fw
theorem Qy{a:Ty}(x:a.D):oM rfl x=x:=rfl
theorem eO{w:World}{S:Nat→Prop}:∀{r:Ty} {d j:Nat} {cs:List Value} {x:r.D} {F:ABJ} {t:Ty} {y:t.D},Ow w S d r cs x F→BO r j x=some ⟨t,y⟩→
  ∃v F1 F2,cs[j]? =some v∧Ow w S d t [v] y F1∧F.Perm (F1++F2)∧
   ∀(w':World) (S':Nat→Prop) (v':Value) (y':t.D) (nn:ABJ) (x':r.D),(∀b,S b→S' b)→(∀b,S b→w'.heap[b]? =w.heap[b]?)→(∀b∈F2,w'.heap[b]? =w.heap[b]?)→
    Ow w' S' d t [v'] y' nn→EB r j x t y' =some x'→ ∃F',F'.Perm (nn++F2)∧Ow w' S' d r (cs.set j v') x' F'
 | .cons c r,d,0,cs,x,F,t,y,h,e=>by
  simp only[Ow]at h;obtain⟨v,l,A,B,rfl,rfl,h1,h2⟩:=h;simp only[BO,ALt,AM4]at e;obtain⟨rfl,e⟩:=e;obtain rfl:=AQj e;refine⟨v,A,B,rfl,h1,AXr _,fun w' S' v' y' nn x' hS sy hF ho hx=> ?_⟩;simp only[EB,AXe,Qy,ALt]at hx;subst hx;refine⟨nn++B,AXr _,?_⟩;simp only[Ow,AXW];exact⟨v',l,nn,B,rfl,rfl,ho,Eb hS sy hF h2⟩
 | .cons c r,d,j+1,cs,x,F,t,y,h,e=>by
  simp only[Ow]at h;obtain⟨v,l,A,B,rfl,rfl,h1,h2⟩:=h;simp only[BO]at e;obtain⟨u,F1,F2,k1,k2,k3,k4⟩:=eO h2 e;refine⟨u,F1,A++F2,by simp_all,k2,?_,fun w' S' v' y' nn x' hS sy hF ho hx=> ?_⟩
  ·grind
  ·simp only[EB,AL9]at hx
   obtain⟨z,hz,rfl⟩:=hx;obtain⟨F',p1,p2⟩:=k4 w' S' v' y' nn z hS sy (fun b hb=>hF b (by simp[hb])) ho hz;refine⟨A++F',?_,?_⟩
   ·grind
   ·simp only[Ow,List.set_cons_succ]
    exact⟨v,_,A,F',rfl,rfl,Eb hS sy (fun b hb=>hF b (by simp[hb])) h1,p2⟩
 | .int k,d,0,cs,x,F,t,y,h,e=>by
  simp only[BO,ALt,AM4]at e;obtain⟨rfl,e⟩:=e;obtain rfl:=AQj e;have hc:=Xo h;obtain⟨v,rfl⟩:∃v,cs=[v]:=by
   cases cs with
   |nil=>simp[Ty.n]at hc
   |cons a l=>cases l with
    |nil=>simp_all
    |cons _ _=>simp[Ty.n]at hc
  refine⟨v,F,[],rfl,h,by simp,fun w' S' v' y' nn x' hS sy hF ho hx=>⟨nn,by simp,?_⟩⟩;simp only[EB,AXe,Qy,ALt]at hx;simp_all
 | .bool,d,0,cs,x,F,t,y,h,e=>by
  simp only[BO,ALt,AM4]at e;obtain⟨rfl,e⟩:=e;obtain rfl:=AQj e;have hc:=Xo h;obtain⟨v,rfl⟩:∃v,cs=[v]:=by
   cases cs with
   |nil=>simp[Ty.n]at hc
   |cons a l=>cases l with
    |nil=>simp_all
    |cons _ _=>simp[Ty.n]at hc
  refine⟨v,F,[],rfl,h,by simp,fun w' S' v' y' nn x' hS sy hF ho hx=>⟨nn,by simp,?_⟩⟩;simp only[EB,AXe,Qy,ALt]at hx;simp_all
 | .str,d,0,cs,x,F,t,y,h,e=>by
  simp only[BO,ALt,AM4]at e;obtain⟨rfl,e⟩:=e;obtain rfl:=AQj e;have hc:=Xo h;obtain⟨v,rfl⟩:∃v,cs=[v]:=by
   cases cs with
   |nil=>simp[Ty.n]at hc
   |cons a l=>cases l with
    |nil=>simp_all
    |cons _ _=>simp[Ty.n]at hc
  refine⟨v,F,[],rfl,h,by simp,fun w' S' v' y' nn x' hS sy hF ho hx=>⟨nn,by simp,?_⟩⟩;simp only[EB,AXe,Qy,ALt]at hx;simp_all
 | .sl r,d,0,cs,x,F,t,y,h,e=>by
  simp only[BO,ALt,AM4]at e;obtain⟨rfl,e⟩:=e;obtain rfl:=AQj e;have hc:=Xo h;obtain⟨v,rfl⟩:∃v,cs=[v]:=by
   cases cs with
   |nil=>simp[Ty.n]at hc
   |cons a l=>cases l with
    |nil=>simp_all
    |cons _ _=>simp[Ty.n]at hc
  refine⟨v,F,[],rfl,h,by simp,fun w' S' v' y' nn x' hS sy hF ho hx=>⟨nn,by simp,?_⟩⟩;simp only[EB,AXe,Qy,ALt]at hx;simp_all
 | .unit,_,_,_,_,_,_,_,_,e=>by simp[BO]at e
 | .int _,_,_+1,_,_,_,_,_,_,e=>by simp[BO]at e
 | .bool,_,_+1,_,_,_,_,_,_,e=>by simp[BO]at e
 | .str,_,_+1,_,_,_,_,_,_,e=>by simp[BO]at e
 | .sl _,_,_+1,_,_,_,_,_,_,e=>by simp[BO]at e
theorem kI{Fs:List ABJ}{i:Nat}{G G':ABJ}(h:Fs[i]? =some G):(Fs.set i G').flatten.Perm (G'++(Fs.set i []).flatten):=by
 have Lu:=(AMG.1 h).1;have p1:=Uo (Fs:=Fs.set i G') (b:=i) (F:=G') (ATe (by omega));simp_all
theorem vE{w:World}{S:Nat→Prop}{d:Nat}{q:Ty}{a:Option Addr}{len cap:Nat}{ys:List q.D}{F:ABJ}(h:Ow w S (d+1) (.sl q) [.slice a len cap] ys F){i:Nat}(hi:i<ys.length):
  ∃b o arr ty fr cs G R,a=some ⟨b,o,none⟩∧w.heap[b]? =some (.cells arr ty fr)∧xM fr arr.size∧o+i*q.n+q.n≤arr.size∧cs.length=q.n∧Bc w b (o+i*q.n) cs∧
   Ow w S d q cs (rowAt q ys i) G∧F.Perm (G++(b::R))∧
   ∀(w':World) (S':Nat→Prop) (KG:Array Value) (dx:List Value) (aE:q.D) (G':ABJ),(∀c,S c→S' c)→(∀c,S c→w'.heap[c]? =w.heap[c]?)→(∀c∈R,w'.heap[c]? =w.heap[c]?)→
    w'.heap[b]? =some (.cells KG ty fr)→KG.size=arr.size→(∀k,(k<o+i*q.n∨o+i*q.n+q.n≤k)→KG[k]? =arr[k]?)→dx.length=q.n→Bc w' b (o+i*q.n) dx→
    Ow w' S' d q dx aE G'→ ∃F',F'.Perm (G'++(b::R))∧Ow w' S' (d+1) (.sl q) [.slice a len cap] (ys.set i aE) F':=by
 simp only[Ow]at h;obtain⟨a',cap',e,hle,h⟩:=h;simp only[AQY,Value.slice.injEq,ATS]at e;obtain⟨rfl,rfl,rfl⟩:=e;rcases h with⟨h1,_⟩|⟨b,o,arr,ty,fr,Fs,rfl,hb,PN,hu,rfl,hFl,cR⟩
 ·omega
 ·have hG:Fs[i]? =some (Fs[i]'(by omega)):=ALR _
  generalize Fs[i]'(by omega)=G at hG
  obtain⟨cs,c1,c2,c3⟩:=cR i _ G (RC hi) hG;have hbound:o+i*q.n+q.n≤arr.size:=by
   have:(i+1)*q.n≤cap*q.n:=AOi _ (by omega);grind
  refine⟨b,o,arr,ty,fr,cs,G,(Fs.set i []).flatten,rfl,hb,fun i hi=>hu i (by omega),hbound,c1,c2,c3,?_,?_⟩
  ·refine(List.Perm.cons b (Uo hG)).trans ?_
   exact List.perm_middle.symm
  ·intro w' S' KG dx aE G' hS sy hR hb' xm hk cX hca ho
   refine⟨b::(Fs.set i G').flatten,?_,?_⟩
   ·grind[List.Perm.cons,kI,trans]
   ·simp only[Ow]
    refine⟨_,cap,by simp,by simp_all,.inr ⟨b,o,KG,ty,fr,Fs.set i G',rfl,hb',by omega,by simp_all,rfl,by simp_all,fun k y H hy hH=> ?_⟩⟩;by_cases e:k=i
    ·grind
    ·rw[ASj (by omega)]at hy
     rw[ASj (by omega)]at hH;obtain⟨ds,d1,d2,d3⟩:=cR k y H hy hH;refine⟨ds,d1,fun j v hj=> ?_,Eb hS sy (fun c hc=>hR c (ASW.2 ⟨H,ANe (by grind:(Fs.set i [])[k]? =some H),hc⟩)) d3⟩;have qq:=(AMG.1 hj).1;have hold:=d2 j v hj;simp only[World.cell?,hb,ATX,AMH,AON]at hold;simp only[World.cell?,hb',ATX,AMH,AON];rw[hk,hold];rcases Nat.lt_or_gt_of_ne e with e|e
     ·left
      have:(k+1)*q.n≤i*q.n:=AOi _ e;grind
     ·right
      have:(i+1)*q.n≤k*q.n:=AOi _ e;grind
theorem p9{w:World}{S:Nat→Prop}:∀{p:List WR} {d:Nat} {r:Ty} {h:Value} {rows:List r.D} {F:ABJ} {q:Ty} {ys:List q.D},Ow w S d (.sl r) [h] rows F→DF r rows p→
  G_ r rows p=some ⟨q,ys⟩→p.length<d→ ∃h' F1 F2,Iw w h p=some h'∧Ow w S (d-p.length) (.sl q) [h'] ys F1∧F.Perm (F1++F2)∧
   ∀(w':World) (S':Nat→Prop) (vX:List q.D) (nn:ABJ) (C1:List r.D),(∀c,S c→S' c)→(∀c,S c→w'.heap[c]? =w.heap[c]?)→(∀c∈F2,w'.heap[c]? =w.heap[c]?)→
    Ow w' S' (d-p.length) (.sl q) [h'] vX nn→pX r rows p q vX=some C1→ ∃F',F'.Perm (nn++F2)∧Ow w' S' d (.sl r) [h] C1 F'
 |[],d,r,h,rows,F,q,ys,ho,_,hg,_=>by
  simp only[G_,ALt,AM4]at hg;obtain⟨rfl,e⟩:=hg;obtain rfl:=AQj e;refine⟨h,F,[],DA,ho,by simp,fun w' S' vX nn C1 _ _ _ xG hs=>⟨nn,by simp,?_⟩⟩;simp only[pX,AXe,Qy,ALt]at hs;simp_all
 |s::p,d,r,h,rows,F,q,ys,ho,hp,hg,hd=>by
  obtain⟨d,rfl⟩:∃n,d=n+1:=⟨d-1,by omega⟩;simp only[DF]at hp;obtain⟨hi,PN,hp⟩:=hp;simp only[G_]at hg;obtain⟨a,len,cap,rfl⟩:∃a len cap,h= .slice a len cap:=by
   have:=ho;simp only[Ow]at this;grind
  split at hg
  case h_2=>cases hg
  rename_i q' x' iG;rw[iG]at hp;obtain⟨b,o,arr,ty,fr,cs,G,R,rfl,hb,hu,hbd,c1,c2,c3,ql,hback⟩:=vE ho hi;obtain⟨v,A1,A2,k1,k2,k3,k4⟩:=eO c3 iG;obtain⟨h',F1,F2,m1,m2,m3,m4⟩:=p9 k2 hp hg (by simp_all);have ABq:d+1-(s::p).length=d-p.length:=by simp
  refine⟨h',F1,F2++A2++(b::R),?_,by simp_all,?_,?_⟩
  ·simp only[Iw]
   rw[PN,c2 _ _ k1];omega
  ·grind
  ·intro w' S' vX nn C1 hS sy hF2 xG W8
   rw[ABq]at xG;simp only[pX,iG]at W8;simp only[AMR,AL9]at W8;obtain⟨x2,hx2,aE,hrow,rfl⟩:=W8;obtain⟨B1,p1,p2⟩:=m4 w' S' vX nn x2 hS sy (fun c hc=>hF2 c (by simp[hc])) xG hx2;obtain⟨B2,p3,p4⟩:=k4 w' S' v x2 B1 aE hS sy (fun c hc=>hF2 c (by simp[hc])) p2 hrow;have AJ1:cs.set s.j v=cs:=by
    apply AVM;grind
   rw[AJ1]at p4;have hbb:=hF2 b (by simp);obtain⟨F',p5,p6⟩:=hback w' S' arr cs aE B2 hS sy (fun c hc=>hF2 c (by simp[hc])) (hbb.trans hb) rfl (fun _ _=>rfl) c1 (c2.of_block hbb) p4;grind
end Go.Fw
end
section
namespace Go.Fw
def OR(E:Env)(w:World)(vw:List Bx):Option XV→Option Value→Prop
 |none,none=>True
 |some x,some v=>XR E w vw x v
 |_,_=>False
section
variable{Y:Type} {P:Program} {T:Jp} (hT:Em P T) {E:Env} {w:World} {vw:List Bx}
theorem run_sliceBound{κ:IntKind}{i:Int}{y:Nat}{code:BoundsCode}(h0:0≤i)(h1:i≤(y:Int)):(Instr.sliceBound (.int κ i) y code).run P w= .ok i.toNat w:=by
 simp[Instr.sliceBound,asIntOf,h0,h1]
theorem TJ{len cap:Nat}(hc:len≤cap){lo hi:Option XV}{k:Nat→Nat→Option Y}{y:Y}(e:N1 len lo hi k=some y){lv hv:Option Value}
  (hl:OR E w vw lo lv) (hh:OR E w vw hi hv) (b:Bool):∃l h,k l h=some y∧l≤h∧h≤len∧(Instr.sliceBounds b len cap lv hv none).run P w= .ok (l,h,cap) w:=by
 unfold N1 at e;dsimp only at e;split at e
 case h_2=>cases e
 rename_i l h el eh;split at e
 case isFalse=>cases e
 rename_i hb;obtain⟨b1,b2,b3⟩:=hb;refine⟨l.toNat,h.toNat,e,by omega,by omega,?_⟩;cases hi with
 |none=>cases hv with
  |some _=>exact hh.elim
  |none=>
   simp only[ALt]at eh;subst eh;cases lo with
   |none=>cases lv with
    |some _=>exact hl.elim
    |none=>
     simp only[ALt]at el;subst el;rfl
   |some x=>cases lv with
    |none=>exact hl.elim
    |some v=>
     obtain⟨κ,rfl⟩:=Ic (E:=E) (w:=w) (vw:=vw) el hl;simp[Instr.sliceBounds,run_sliceBound (P:=P) (w:=w) (κ:=κ) (i:=l) (y:=len) b1 (by omega)]
 |some x=>cases hv with
  |none=>exact hh.elim
  |some v=>
   obtain⟨κ,rfl⟩:=Ic (E:=E) (w:=w) (vw:=vw) eh hh;have e1:=fun code=>run_sliceBound (P:=P) (w:=w) (κ:=κ) (i:=h) (y:=cap) (code:=code) (by omega) (by omega)
   cases lo with
   |none=>cases lv with
    |some _=>exact hl.elim
    |none=>
     simp only[ALt]at el;subst el;simp[Instr.sliceBounds,e1]
   |some x=>cases lv with
    |none=>exact hl.elim
    |some v=>
     obtain⟨κ',rfl⟩:=Ic (E:=E) (w:=w) (vw:=vw) el hl;have e2:=fun code=>run_sliceBound (P:=P) (w:=w) (κ:=κ') (i:=l) (y:=h.toNat) (code:=code) b1 (by omega)
     simp[Instr.sliceBounds,e1,e2]
theorem rO(s:ACD)(l h:Nat):(⟨s.toArray⟩:ByteArray).extract l h=⟨((s.drop l).take (h-l)).toArray⟩:=by
 apply ByteArray.ext;simp[List.extract_eq_take_drop]
include hT
theorem iw{σ:St}{Fs:List ABJ}(hB:NG E w σ.bx σ.bx Fs)(st:∀c,E.S c→E.T c){t:Nat}{x:XV}{lo hi:Option XV}{k:K Y}{y:Y}(e:kE T t σ x lo hi k=some y)
  {v:Value} {lv hv:Option Value} (hx:XR E w σ.bx x v) (hl:OR E w σ.bx lo lv) (hh:OR E w σ.bx hi hv):
  ∃z val,k z σ=some y∧(Instr.sliceAt t v lv hv none).run P w= .ok val w∧XR E w σ.bx z val:=by
 unfold kE at e;split at e
 ·rename_i s
  split at e
  case isFalse=>cases e
  rename_i fO;have hu:=Wx hT fO;have YQ:=W4 (E:=E) (w:=w) (vw:=σ.bx) hx;subst YQ;obtain⟨l,h,ek,h1,h2,hr⟩:=TJ (P:=P) (cap:=s.length) (AQE _) e hl hh false;refine⟨_,.string ⟨((s.drop l).take (h-l)).toArray⟩,ek,?_,VR.str (E:=E) (vw:=σ.bx) _⟩;have hs:(⟨s.toArray⟩:ByteArray).size=s.length:=by rfl
  simp[Instr.sliceAt,Ba hu,Instr.slice,hs,hr,rO]
 ·rename_i s r rows
  split at e
  case isFalse=>cases e
  rename_i UR;obtain⟨el,ti,hu,Uv,hs,_⟩:=KX hT UR;have PN:=Em.sizeOf hT Uv w
  change VR E w σ.bx (.sl s r rows) v at hx
  have ym:=hx;simp only[VR,Rd]at ym;obtain⟨a,cap,YQ,hle,_⟩:=ym;simp only[AQY,ATS]at YQ;subst YQ;obtain⟨l,h,ek,h1,h2,hr⟩:=TJ (P:=P) hle e hl hh true;refine⟨_,U4 r.n l (h-l) a cap,ek,?_,?_⟩
  ·simp[Instr.sliceAt,Ba hu,Instr.slice,hr,PN,hs,U4]
  grind[XR,VR,zW]
 ·rename_i b p
  split at e
  case h_2=>cases e
  rename_i q hq;split at e
  case isFalse=>cases e
  rename_i UR;obtain⟨el,ti,hu,Uv,hs,_⟩:=KX hT UR;have PN:=Em.sizeOf hT Uv w
  change VR E w σ.bx (.ref b p) v at hx
  obtain⟨a,cap,rfl,hle,_⟩:=yH hB st hx hq;obtain⟨l,h,ek,h1,h2,hr⟩:=TJ (P:=P) hle e hl hh true;refine⟨_,U4 q.1.n l (h-l) a cap,ek,?_,?_⟩
  ·simp[Instr.sliceAt,Ba hu,Instr.slice,hr,PN,hs,U4]
  ·simp only[NN]at hq
   obtain⟨_,hx⟩:=hx;refine⟨by rfl,?_⟩;grind
 simp_all
omit hT in
theorem af{f:Nat→Option AV}:∀{n j:Nat} {l:List AV},dL f j n=some l→l.length=n∧ ∀(i:Nat) x,l[i]? =some x→f (j+i)=some x
 |0,j,l,e=>by simp only[dL,ALt]at e;subst e;simp
 |n+1,j,l,e=>by
  simp only[dL,AMR,AL9]at e;obtain⟨x,hx,l',hl,rfl⟩:=e;obtain⟨h1,h2⟩:=af hl;refine⟨by simp[h1],fun i z hz=> ?_⟩;cases i with
  |zero=>simp at hz;subst hz;exact hx
  |succ i=>
   have:=h2 i z (by simpa using hz)
   rwa [show j+1+i=j+(i+1)by omega]at this
omit hT in
theorem WV{B:Nat→Prop}{t:Ty}{x:t.D}{v:Value}(h:Rd w B t [v] x)(hs:t.scalar=true):VR E w vw (.v t x) v:=by
 refine⟨hs,?_⟩;cases t<;>first
  |(simpa only[Rd]using h)
  |(simp[Ty.scalar]at hs)
omit hT in
theorem ACV{s:Bool}{t:Ty}{x:t.D}{v:Value}(h:Rd w (if s then E.S else E.T) t [v] x):VR E w vw (yf s ⟨t,x⟩) v:=by
 cases t with
 |sl r=>simp only[yf,VR];exact h
 |int k=>exact WV h rfl
 |bool=>exact WV h rfl
 |str=>exact WV h rfl
 |unit=>trivial
 |cons c r=>trivial
omit hT in
theorem lz{s:WR}:∀{p:List WR} {r:Ty} {rows:List r.D} {q:Ty} {ys:List q.D} {t:Ty} {x:List t.D},DF r rows p→G_ r rows p=some ⟨q,ys⟩→s.i<ys.length→s.sz=q.n→
  BO q s.j (rowAt q ys s.i)=some ⟨.sl t,x⟩→DF r rows (p++[s])∧G_ r rows (p++[s])=some ⟨t,x⟩
 |[],r,rows,q,ys,t,x,_,hg,hi,hs,hc=>by
  simp only[G_,ALt,AM4]at hg;obtain⟨rfl,e⟩:=hg;obtain rfl:=AQj e;refine⟨?_,?_⟩
  ·simp only[ATL,DF,hc]
   exact⟨hi,hs,trivial⟩
  ·simp only[ATL,G_,hc]
 |s'::p,r,rows,q,ys,t,x,hp,hg,hi,hs,hc=>by
  simp only[DF]at hp;obtain⟨h1,h2,hp⟩:=hp;simp only[G_]at hg;split at hg
  ·rename_i q' x' iG
   rw[iG]at hp;obtain⟨a,b⟩:=lz hp hg hi hs hc;refine⟨?_,?_⟩
   ·simp only[AVp,DF,iG]
    exact⟨h1,h2,a⟩
   ·simp only[AVp,G_,iG]
    exact b
  ·cases hg
omit hT in
theorem qI{s:WR}:∀{p:List WR} {h:Value} {b o len cap:Nat} {v:Value},Iw w h p=some (.slice (some ⟨b,o,none⟩) len cap)→w.cell? ⟨b,o+s.i*s.sz+s.j,none⟩=some v→
  Iw w h (p++[s])=some v
 |[],h,b,o,len,cap,v,e,hc=>by
  rw[DA]at e;cases e;simp[Iw,hc,DA]
 |s'::p,h,b,o,len,cap,v,e,hc=>by
  cases h with
  |slice a l c=>
   cases a with
   |none=>simp[Iw]at e
   |some a=>
    simp only[Iw]at e;split at e
    ·rename_i h' hh
     simp only[AVp,Iw,hh];exact qI e hc
    ·cases e
  |_=>simp[Iw]at e
omit hT in
theorem LS{bx:List Bx}{Fs:List ABJ}(hB:NG E w bx bx Fs)(st:∀c,E.S c→E.T c){x z:AV}{i:Nat}(e:JR bx x i=some z){v:Value}(hx:VR E w bx x v):
  ∃b o u,v= .pointer (some ⟨b,o,none⟩)∧w.cell? ⟨b,o+i,none⟩=some u∧VR E w bx z u:=by
 cases x with
 |IL b j=>
  simp only[JR]at e;split at e
  ·rename_i cs hb
   obtain⟨F,⟨_,arr,ty,fr,ha,hu,hv⟩,_⟩:=hB.get hb;obtain⟨u,h1,h2⟩:=Ca.get hv e;refine⟨_,_,u,hx.2,?_,h2⟩;simp only[World.cell?,ha,ATX,AMH,AON];simpa using h1
  ·cases e
 |JK b p r sz j=>
  simp only[JR]at e;split at e
  ·rename_i d q rows hb
   split at e
   case isFalse=>cases e
   rename_i hd;simp only[AMR]at e;obtain⟨⟨q',vX⟩,hg,e⟩:=e;split at e
   case isFalse=>cases e
   rename_i PN;simp only[AL9]at e;obtain⟨⟨t,y⟩,hc,rfl⟩:=e;simp only[VR,hb]at hx;obtain⟨_,hp,q1,ys,bb,o,len,cap,g1,g2,g3,rfl⟩:=hx;rw[hg]at g1;simp only[ALt,AM4]at g1;obtain⟨rfl,g1⟩:=g1;obtain rfl:=AQj g1;dsimp only at PN hc;obtain⟨F,⟨hd1,ho⟩,hF⟩:=hB.get hb;have ZG:=dw (FM.refl bx) hB st hb hp hg g3;have AfD:=ZG;simp only[Rd]at ZG;obtain⟨a',cap',ee,hle,ZG⟩:=ZG;simp only[AQY,Value.slice.injEq,ATS]at ee;obtain⟨rfl,rfl,rfl⟩:=ee;rcases ZG with ZG|⟨b1,o1,e7,_,ZG⟩
   ·omega
   ·cases e7
    obtain⟨cs,c1,c2,c3⟩:=ZG r _ (RC g2);obtain⟨u,hu,hur⟩:=eQ c3 hc;have Zl:=c2 _ _ hu;rw[←PN]at Zl;refine⟨_,_,u,rfl,by rw[ATq];exact Zl,?_⟩;cases t with
    |sl t' =>
     simp only[AAY];split
     ·rename_i hdd
      obtain⟨h',F1,F2,m1,m2,_,_⟩:=p9 ho hp hg hd;rw[g3]at m1;cases m1;rw[show d-p.length=0+1 by omega]at m2;obtain⟨b2,o2,arr,ty,fr,cs2,G,R,e2,_,_,_,_,k2,k3,_,_⟩:=vE m2 g2;cases e2;obtain⟨v2,A1,A2,z1,z2,_,_⟩:=eO k3 hc;have AFK:=k2 _ _ z1;rw[←PN,Zl]at AFK;cases AFK;simp only[Ow]at z2;simp only[VR];exact z2.1
     ·simp only[VR,hb]
      have:=lz (s:=⟨r,sz,j+i⟩) hp hg g2 PN hc;simp only[Rd]at hur;obtain⟨a2,cap2,e2,_⟩:=hur;simp only[AQY,ATS]at e2;refine⟨by rw[e2];rfl,this.1,⟨_,this.2⟩,qI g3 Zl⟩
    |int k=>exact WV hur rfl
    |bool=>exact WV hur rfl
    |str=>exact WV hur rfl
    |unit=>trivial
    |cons c r=>trivial
  ·cases e
 |PM s r y j=>
  simp only[JR,AL9]at e;obtain⟨⟨t,y'⟩,hc,rfl⟩:=e;obtain⟨bb,o,cs,rfl,h2,h3,h4,h5⟩:=hx;obtain⟨u,hu,hur⟩:=eQ h5 hc;refine⟨_,_,u,rfl,by rw[ATq];exact h4 _ _ hu,ACV hur⟩
 |_=>simp[JR]at e
omit hT in
theorem dd{bx:List Bx}{Fs:List ABJ}(hB:NG E w bx bx Fs)(st:∀c,E.S c→E.T c){x:AV}{v:Value}(hx:VR E w bx x v){b o:Nat}(hv:v= .pointer (some ⟨b,o,none⟩)):
  ∀{l:List AV} {j:Nat},(∀(i:Nat) z,l[i]? =some z→JR bx x (j+i)=some z)→ ∃cs:List Value,cs.length=l.length∧Bc w b (o+j) cs∧iy E w bx l cs
 |[],_,_=>⟨[],rfl,fun _ _ h=>by simp at h,trivial⟩
 |z::l,j,h=>by
  obtain⟨b',o',u,e1,e2,e3⟩:=LS hB st (h 0 z rfl) hx;subst hv;simp only[Value.pointer.injEq,ALt,Addr.mk.injEq,ATS]at e1;obtain⟨rfl,rfl⟩:=e1;obtain⟨cs,c1,c2,c3⟩:=dd hB st hx rfl (l:=l) (j:=j+1) (fun i y hy=>by
   have:=h (i+1) y (by simpa using hy)
   rwa [show j+1+i=j+(i+1)by omega])
  refine⟨u::cs,by simp[c1],fun i y hy=> ?_,e3,c3⟩;cases i with
  |zero=>simp at hy;subst hy;exact e2
  |succ i=>
   have:=c2 i y (by simpa using hy)
   rwa [show o+(j+1)+i=o+j+(i+1)by omega]at this
theorem xS{σ:St}{Fs:List ABJ}(hB:NG E w σ.bx σ.bx Fs)(st:∀c,E.S c→E.T c){t:Nat}{x z:XV}(e:ln T t σ x=some z){v:Value}(hx:XR E w σ.bx x v):
  ∃u,(Instr.loadAt t v).run P w= .ok u w∧XR E w σ.bx z u:=by
 unfold ln at e;split at e
 case h_2=>cases e
 rename_i x ti Uv;split at e
 case isTrue=>cases e
 rename_i PN;have jf:=Em.isAgg hT Uv w;split at e
 ·rename_i ha
  rw[ha]at jf;simp only[AL9]at e;obtain⟨l,hl,rfl⟩:=e;obtain⟨h1,h2⟩:=af hl;have h0:0<l.length:=by omega
  obtain⟨b,o,u,hv,_,_⟩:=LS hB st (h2 0 _ (ALR h0)) hx;obtain⟨cs,c1,c2,c3⟩:=dd hB st hx hv (l:=l) (j:=0) (fun i y hy=>by simp_all);subst hv;have ji:=(hT t ti Uv).und;cases hd:ti.desc with
  |st fs=>
   rw[hd]at ji;obtain⟨fields,hu,_⟩:=ji;refine⟨.agg cs.toArray,run_loadAt_mid w b o t cs _ (by grind[Bc,World.rangeAt]) hu rfl ?_,cs.toArray,rfl,by omega⟩;grind[Em.size]
  |_=>grind[TD.agg]
 ·rename_i ha
  simp only[APN]at ha;rw[ha]at jf;simp only[AL9]at e;obtain⟨y,hy,rfl⟩:=e;obtain⟨b,o,u,hv,hc,hr⟩:=LS hB st hy hx;subst hv;refine⟨u,?_,hr⟩;simp only[ATu]at hc;simp[Instr.loadAt,Instr.sureAddr,loadVar,jf,hc]
end
end Go.Fw
end
section
namespace Go.Fw
theorem n_{w:World}{S:Nat→Prop}{d:Nat}{q:Ty}:Ow w S d (.sl q) [.slice none 0 0] [] []:=by
 cases d with
 |zero=>simp only[Ow,Rd];simp_all
 |succ d=>simp only[Ow];simp_all
theorem AF0{w:World}{S:Nat→Prop}{d:Nat}{r:Ty}{a:Option Addr}{len cap:Nat}{ys:List r.D}{F:ABJ}(h:Ow w S (d+1) (.sl r) [.slice a len cap] ys F){off n:Nat}(hn:off+n≤ys.length):
  ∃F1 F2,F.Perm (F1++F2)∧Ow w S (d+1) (.sl r) [U4 r.n off n a cap] ((ys.drop off).take n) F1:=by
 simp only[Ow]at h⊢;obtain⟨a',cap',e,hc,h⟩:=h;simp only[AQY,Value.slice.injEq,ATS]at e;obtain⟨rfl,rfl,rfl⟩:=e;have hl:((ys.drop off).take n).length=n:=by grind
 by_cases h0:cap=off
 ·subst h0
  refine⟨[],F,by simp,a,0,by simp[U4,hl],by omega,.inl ⟨rfl,rfl⟩⟩
 ·rcases h with⟨h,rfl⟩|⟨b,o,arr,ty,fr,Fs,rfl,hb,PN,hu,rfl,hFl,hr⟩
  ·omega
  ·have p:Fs.flatten.Perm (((Fs.drop off).take n).flatten++((Fs.take off).flatten++(Fs.drop (off+n)).flatten)):=by
    grind[List.drop_drop,List.take_append_drop,List.flatten_append,List.append_assoc,List.Perm.append_right,List.perm_append_comm]
   refine⟨b::((Fs.drop off).take n).flatten,(Fs.take off).flatten++(Fs.drop (off+n)).flatten,List.Perm.cons b p,some ⟨b,o+off*r.n,none⟩,cap-off,?_,by omega,.inr ⟨b,o+off*r.n,arr,ty,fr,_,rfl,hb,?_,hu,rfl,?_,?_⟩⟩
   ·grind[U4,Addr.add_eq]
   ·have:off*r.n+(cap-off)*r.n=cap*r.n:=by rw[←ATm];grind
    omega
   all_goals grind
theorem Le.keep{E E':Env}(h:Le E E'){w:World}{vw:List Bx}(st:∀c,E.S c→E.T c):Sh E w vw E' w vw:=
 ⟨AQE _,fun b _=>by rw[h.H0],h.T,h.S,st,fun _ _=>rfl,fun b d r rows _ e=>⟨d,rows,e,fun p hp q ys hg=>⟨hp,⟨ys,hg,rfl⟩,fun h' hh=>by rw[h.H3];omega⟩⟩⟩
theorem DD.share{E:Env}{w:World}{vw bx:List Bx}{F W G:ABJ}(h:DD E w vw bx (F++W++G)):
  let E':Env:={ E with S:=fun c=>E.S c∨c∈W,T:=fun c=>E.T c∨c∈W }
  Le E E'∧DD E' w vw bx (F++G):=by
 intro E';have st:=h.st;have hle:Le E E':=⟨rfl,rfl,fun c hc=> .inl hc,fun c hc=> .inl hc,fun c hc=>hc.elim .inl fun h' => .inr (.inr h'),fun c hc=>hc.elim .inl fun h' => .inr (h.AEG c (by simp[h']))⟩;refine⟨hle,?_⟩;obtain⟨Fs,⟨h1,h2⟩,h3⟩:=h;refine⟨Fs,⟨h1,fun k B F' hk hF=> ?_⟩,?_⟩
 ·have:=h2 k B F' hk hF
  cases B with
  |mem cs=>
   obtain⟨rfl,arr,ty,fr,a1,a2,a3⟩:=this;exact⟨rfl,arr,ty,fr,a1,a2,a3.imp fun _ _ hv=>GM (hle.keep st) hv⟩
  |sl d r rows=>exact⟨this.1,Eb hle.S (fun _ _=>rfl) (fun _ _=>rfl) this.2⟩
  |dead=>exact this
 ·have h4:Sep E w (W++(Fs.flatten++(F++G))):=h3.perm (by
   grind)
  refine⟨(AM6.1 h4.nodup).2.1,fun c hc ht=> ?_,fun c hc=>h4.lt c (by simp_all),fun c hc=>hc.imp (st c) id,fun c hc=>hc.elim (h4.cf c) fun h' =>h4.lt c (by simp[h'])⟩;rcases ht with ht|ht
  ·exact h4.free c (AOl.2 (.inr hc)) ht
  ·exact(AM6.1 h4.nodup).2.2 c ht c hc rfl
structure HE (E:Env) (w:World) (vw bx:List Bx) (G:ABJ) (E':Env) (QQ:List Bx) (F:ABJ):Prop where
 le:Le E E'
 len:QQ.length=bx.length
 within:∀(b:Nat) (B:Bx),QQ[b]? =some B→B= .dead∨bx[b]? =some B
 boxes:DD E' w vw QQ (F++G)
theorem HE.refl{E:Env}{w:World}{vw bx:List Bx}{G:ABJ}(h:DD E w vw bx G):HE E w vw bx G E bx []:=
 ⟨Le.refl E,rfl,fun _ _ h=> .inr h,h⟩
theorem FM.qY{E E':Env}{w:World}{vw bx QQ:List Bx}{G F:ABJ}(h:FM bx vw)(k:HE E w vw bx G E' QQ F):FM QQ vw:=fun b B e=>
 (k.within b B e).elim .inl (h b B)
theorem aZ{E:Env}{w:World}{vw bx:List Bx}{G:ABJ}(h:DD E w vw bx G)(hw:FM bx vw){d:Nat}(hd:1≤d){t:Ty}{x:AV}{v:Value}(hv:VR E w vw x v){y:t.D}{QQ:List Bx}{d':Nat}
  (e:dW d t x bx=some (y,QQ,d')):1≤d'∧d'≤d∧ ∃E' F,HE E w vw bx G E' QQ F∧Ow w E'.S (d'-1) t [v] y F:=by
 unfold dW at e;split at e
 ·rename_i u z
  simp only[AL9,APo]at e;obtain⟨z',e1,rfl,rfl,rfl⟩:=e;obtain⟨e2,e3⟩:=H7 e1;subst e2;subst e3;refine⟨hd,AQE _,E,[],HE.refl h,?_⟩;obtain⟨hs,hr⟩:=hv;cases u<;>simp_all[Ty.scalar,Ow,Rd]
 ·split at e
  ·simp only[ALt,APo]at e
   obtain⟨rfl,rfl,rfl⟩:=e;simp only[VR]at hv;subst hv;exact⟨hd,AQE _,E,[],HE.refl h,n_⟩
  simp_all
 ·rename_i r z
  split at e
  ·rename_i q
   simp only[AL9,APo]at e;obtain⟨z',e1,rfl,rfl,rfl⟩:=e;obtain⟨e2,e3⟩:=H7 e1;subst e2;subst e3;refine⟨AQE _,hd,E,[],HE.refl h,?_⟩;simp only[VR]at hv;simp only[AXq,Ow];simp_all
  simp_all
 ·rename_i b
  split at e
  case h_2=>cases e
  rename_i q;split at e
  case h_2=>cases e
  rename_i db r z hb;simp only[AL9,APo]at e;obtain⟨z',e1,rfl,rfl,rfl⟩:=e;obtain⟨e2,e3⟩:=H7 e1;subst e2;subst e3;obtain⟨F0,⟨hd1,ho⟩,hB⟩:=h.take hb;have hvv:v=E.H3 b:=by
   grind[VR,X_,DA]
  subst hvv;obtain⟨F1,W,hp,xG⟩:=J9 (d:=min d (db+1)-1) (by omega) ho;have TV:=hB.perm (AUI G hp);obtain⟨hle,Xr⟩:=TV.share;refine⟨by omega,Nat.min_le_left _ _,_,F1,⟨hle,by simp,fun k B hk=> ?_,Xr⟩,xG⟩;grind
 ·rename_i b off n
  split at e
  case h_2=>cases e
  rename_i q;split at e
  case h_2=>cases e
  rename_i db r z hb;simp only[AL9,APo]at e;obtain⟨z',e1,rfl,rfl,rfl⟩:=e;obtain⟨e2,e3⟩:=H7 e1;subst e2;subst e3;obtain⟨F0,⟨hd1,ho⟩,hB⟩:=h.take hb;simp only[VR,X_ hw hb,DA]at hv;obtain⟨_,_,q',ys,a,len,cap,hg,hn,hh,rfl⟩:=hv;simp only[G_,ALt,AM4]at hg;obtain⟨rfl,hg⟩:=hg;obtain rfl:=AQj hg;simp only[ALt]at hh;rw[hh]at ho;obtain⟨db,rfl⟩:∃m,db=m+1:=⟨db-1,by omega⟩;obtain⟨A1,A2,hp0,ho0⟩:=AF0 ho hn;obtain⟨F1,W,hp,xG⟩:=J9 (d:=min d (db+1+1)-1) (by omega) ho0;have hB1:DD E w vw (bx.set b .dead) (A1++G):=by
   refine DD.drop (G':=A2) (hB.perm ?_);grind
  have TV:=hB1.perm (AUI G hp);obtain⟨hle,Xr⟩:=TV.share;refine⟨by omega,Nat.min_le_left _ _,_,F1,⟨hle,by simp,fun k B hk=> ?_,Xr⟩,xG⟩;grind
 simp_all
theorem Y_{w:World}{vw:List Bx}:∀{r:Ty} {E:Env} {bx:List Bx} {G:ABJ} {d:Nat} {l:List AV} {vs:List Value} {y:r.D} {QQ:List Bx} {d':Nat},DD E w vw bx G→FM bx vw→1≤d→
  iy E w vw l vs→cellsIn d r l bx=some (y,QQ,d')→1≤d'∧d'≤d∧ ∃E' F,HE E w vw bx G E' QQ F∧Ow w E'.S (d'-1) r vs y F
 | .unit,E,bx,G,d,[],[],y,QQ,d',h,hw,hd,_,e=>by
  simp only[cellsIn,ALt,APo]at e;obtain⟨_,rfl,rfl⟩:=e;exact⟨hd,AQE _,E,[],HE.refl h,by simp only[Ow];simp_all⟩
 | .cons c r,E,bx,G,d,x::l,v::vs,y,QQ,d',h,hw,hd,hv,e=>by
  simp only[cellsIn,AMR,AL9,APo]at e;obtain⟨⟨y1,jq,d1⟩,e1,⟨y2,aU,d2⟩,e2,rfl,rfl,rfl⟩:=e;dsimp only at e2⊢;obtain⟨a1,a2,E1,F1,k1,o1⟩:=aZ h hw hd hv.1 e1;have w4:=k1.le.keep (w:=w) (vw:=vw) h.st;obtain⟨b1,b2,E2,F2,k2,o2⟩:=Y_ (G:=F1++G) k1.boxes (hw.qY k1) a1 (hv.2.imp fun _ _ h=>GM w4 h) e2;obtain⟨A,W,hp,o1'⟩:=J9 (d:=d'-1) (by omega) o1;have hB:=k2.boxes.perm (G':=(F2++A)++W++G) (by
   grind)
  obtain⟨hle,Xr⟩:=hB.share;refine⟨b1,AQ4 b2 a2,_,A++F2,⟨(k1.le.trans k2.le).trans hle,k2.len.trans k1.len,fun b B hb=>(k2.within b B hb).elim .inl (k1.within b B),Xr.perm (AUI _ List.perm_append_comm)⟩,?_⟩;simp only[Ow];refine⟨v,vs,A,F2,rfl,rfl,?_,?_⟩
  ·refine Eb (S:=fun b=>E1.S b∨b∈W) ?_ (fun _ _=>rfl) (fun _ _=>rfl) o1'
   intro c hc;exact hc.elim (fun h=> .inl (k2.le.S c h)) .inr
  ·refine Eb (S:=E2.S) ?_ (fun _ _=>rfl) (fun _ _=>rfl) o2
   simp_all
 | .unit,_,_,_,_,_::_,_,_,_,_,_,_,_,_,e=>by simp[cellsIn]at e
 | .unit,_,_,_,_,[],_::_,_,_,_,_,_,_,hv,_=>hv.elim
 | .cons _ _,_,_,_,_,[],_,_,_,_,_,_,_,_,e=>by simp[cellsIn]at e
 | .cons _ _,_,_,_,_,_::_,[],_,_,_,_,_,_,hv,_=>hv.elim
 | .int _,_,_,_,_,_,_,_,_,_,_,_,_,_,e=>by simp[cellsIn]at e
 | .bool,_,_,_,_,_,_,_,_,_,_,_,_,_,e=>by simp[cellsIn]at e
 | .str,_,_,_,_,_,_,_,_,_,_,_,_,_,e=>by simp[cellsIn]at e
 | .sl _,_,_,_,_,_,_,_,_,_,_,_,_,_,e=>by simp[cellsIn]at e
theorem uP{E:Env}{w:World}{vw:List Bx}{x:AV}{v:Value}(h:VR E w vw x v)(hk:x.known=true):v.oneCell' =true∧v.cells= #[v]:=by
 have aux:∀{v:Value},isSlice v=true→v.oneCell' =true∧v.cells= #[v]:=by intro v h;cases v<;>simp_all[isSlice,Value.oneCell',Value.cells]
 have Aal:∀{v:Value},cC v=true→v.oneCell' =true∧v.cells= #[v]:=by intro v h;cases v<;>simp_all[cC,Value.oneCell',Value.cells]
 cases x with
 |v t y=>
  obtain⟨hs,hr⟩:=h;cases t<;>simp[Ty.scalar]at hs<;>simp only[Rd,AQY,ATS]at hr<;>subst hr<;>exact⟨rfl,rfl⟩
 |sl s r y=>
  simp only[VR,Rd]at h;obtain⟨a,cap,h,_⟩:=h;simp only[AQY,ATS]at h;subst h;exact⟨rfl,rfl⟩
 |nil=>simp only[VR]at h;subst h;exact⟨rfl,rfl⟩
 |ref b p=>exact aux h.1
 |win b p off n=>exact aux h.1
 |IL b j=>rw[h.2];exact⟨rfl,rfl⟩
 |JK b p i sz j=>exact Aal h.1
 |PM s r y j=>obtain⟨bb,o,cs,rfl,_⟩:=h;exact⟨rfl,rfl⟩
 |fn f KZ=>rw[h.2];exact⟨rfl,rfl⟩
 |qv f rows=>obtain⟨ps,rfl,_⟩:=h;exact⟨rfl,rfl⟩
 |yW=>simp only[VR]at h;subst h;exact⟨rfl,rfl⟩
 |undef=>simp[AV.known]at hk
theorem AAV{E:Env}{w:World}{vw:List Bx}:∀{l:List AV} {vs:List Value},iy E w vw l vs→l.all AV.known=true→ ∀v∈vs,v.oneCell' =true
 |[],[],_,_=>by simp
 |x::l,v::vs,h,hk=>by
  simp only[ATl,AMC]at hk;intro u hu;rcases AOJ.1 hu with rfl|hu
  ·exact(uP h.1 hk.1).1
  ·exact AAV h.2 hk.2 u hu
theorem pM{E:Env}{w:World}{vw:List Bx}{x:XV}{v:Value}(h:XR E w vw x v)(hk:x.cells.all AV.known=true)(hn:x.cells≠[]):iy E w vw x.cells v.cells.toList∧ ∀u∈v.cells.toList,u.oneCell' =true:=by
 cases x with
 |c x=>
  have h':VR E w vw x v:=h;obtain⟨h1,h2⟩:=uP h' (by grind[XV.cells]);rw[h2];exact⟨⟨h',trivial⟩,by simp_all⟩
 |agg l=>
  obtain⟨vs,rfl,VO⟩:=h;exact⟨VO,AAV VO hk⟩
 |Me l=>simp[XV.cells]at hn
theorem wY{w:World}{vw:List Bx}{r:Ty}{E:Env}{bx:List Bx}{G:ABJ}{d:Nat}{x:XV}{v:Value}{y:r.D}{QQ:List Bx}{d':Nat}(h:DD E w vw bx G)(hw:FM bx vw)(hd:1≤d)
  (hv:XR E w vw x v) (e:AD5 d r x bx=some (y,QQ,d')):1≤d'∧d'≤d∧ ∃E' F,HE E w vw bx G E' QQ F∧Ow w E'.S (d'-1) r v.cells.toList y F:=by
 unfold AD5 at e;split at e
 ·rename_i l
  obtain⟨vs,rfl,VO⟩:=hv;exact Y_ h hw hd VO e
 ·rename_i x
  have YQ:VR E w vw x v:=hv;have hk:x.known=true:=by grind[AV.known,dW]
  rw[(uP YQ hk).2];exact aZ h hw hd YQ e
 simp_all
end Go.Fw
end
section
namespace Go.Fw
def Env.a_(E:Env)(n:Nat)(h:Value):Env:={ E with H3:=fun k=>if k=n then h else E.H3 k }
def Env.eW(E:Env)(n b:Nat):Env:={ E with H0:=fun k=>if k=n then b else E.H0 k }
theorem gD{E E1 E':Env}{w w':World}{vw jq QQ:List Bx}{F:ABJ}(k:HE E w vw vw [] E1 jq F)(st:∀c,E.S c→E.T c)(hlen:vw.length≤QQ.length)
  (vZ:∀b B,b<vw.length→QQ[b]? =some B→jq[b]? =some B) (ADW:∀b,b<vw.length→E'.H0 b=E1.H0 b) (mj:∀b,b<vw.length→E'.H3 b=E1.H3 b) (hT:E'.T=E1.T) (hS:E'.S=E1.S)
  (hw:∀c,c<w.heap.size→c∉F→w'.heap[c]? =w.heap[c]?):Sh E w vw E' w' QQ:=by
 have hB:=k.boxes;obtain⟨Fs,⟨h1,h2⟩,h3⟩:=hB;simp only[AM3]at h3;have x_:∀c,E1.T c→w'.heap[c]? =w.heap[c]?:=fun c hc=>hw c (h3.cf c hc) fun hf=>h3.free c (by simp[hf]) hc
 refine⟨hlen,fun b hb=>by rw[ADW b hb,k.le.H0],fun c hc=>by rw[hT];exact k.le.T c hc,fun c hc=>by rw[hS];exact k.le.S c hc,st,fun c hc=>x_ c (k.le.T c hc),fun b d r rows hb e=> ?_⟩;have e1:=vZ b _ hb e;rcases k.within b _ e1 with e2|e2
 ·cases e2
 ·refine⟨d,rows,e2,fun p hp q ys hg=>⟨hp,⟨ys,hg,rfl⟩,fun h' hh=> ?_⟩⟩
  have hF:Fs[b]? =some (Fs[b]'(by grind)):=ALR _;obtain⟨hd,ho⟩:=h2 b _ _ e1 hF;rw[mj b hb];rw[←k.le.H3]at hh;refine vN ho (fun c hc=>x_ c (h3.st c hc)) (fun c hc=> ?_) hp hg hh;have PY:c∈Fs.flatten:=ASW.2 ⟨_,ANe hF,hc⟩;exact hw c (h3.lt c (by simp[PY])) fun hf=>(AM6.1 h3.nodup).2.2 c PY c hf rfl
structure Grown (w w':World):Prop where
 os:w'.os=w.os
 tape:w'.tape=w.tape
 output:w'.output=w.output
 size:w.heap.size≤w'.heap.size
theorem TO{E E1:Env}{σ:St}{a:Act}{w w':World}{jq:List Bx}{F F':ABJ}(h:Rel E σ a w)(k:HE E w σ.bx σ.bx [] E1 jq F){v:Value}{d:Nat}{r:Ty}{rows:List r.D}(hd:1≤d)
  (ho:Ow w' E1.S d (.sl r) [v] rows F') (hF':∀c∈F',c∈F∨w.heap.size≤c) (nd:F'.Nodup) (Lu:∀c∈F',c<w'.heap.size) (hw:∀c,c<w.heap.size→c∉F→w'.heap[c]? =w.heap[c]?) (g:Grown w w'):
  let E':=E1.a_ jq.length v
  Rel E' { σ with bx:=jq++[.sl d r rows] } a w'∧RJ [] E σ.bx w E' (jq++[.sl d r rows]) w'∧XR E' w' (jq++[.sl d r rows]) (.c (.ref jq.length [])) v:=by
 intro E';have st:=h.bx.st;have hn:=k.len;have keep:Sh E w σ.bx E' w' (jq++[.sl d r rows]):=gD k st (by simp[hn]) (fun b B hb e=>by
   grind) (fun b _=>rfl) (fun b hb=>by grind[Env.a_]) rfl rfl hw
 have w4:Sh E1 w σ.bx E' w' (jq++[.sl d r rows]):=by
  have k':HE E1 w σ.bx σ.bx [] E1 jq F:=⟨Le.refl _,k.len,k.within,k.boxes⟩;exact gD k' k.boxes.st (by simp[hn]) (fun b B hb e=>by
   grind) (fun b _=>rfl) (fun b hb=>by grind[Env.a_]) rfl rfl hw
 obtain⟨Fs,⟨h1,h2⟩,h3⟩:=k.boxes;simp only[AM3]at h3;have x_:∀c,E1.T c→w'.heap[c]? =w.heap[c]?:=fun c hc=>hw c (h3.cf c hc) fun hf=>h3.free c (by simp[hf]) hc
 have hF0:∀c∈Fs.flatten,w'.heap[c]? =w.heap[c]?:=fun c hc=>hw c (h3.lt c (by simp[hc])) fun hf=>(AM6.1 h3.nodup).2.2 c hc c hf rfl
 refine⟨⟨h.NO,h.tm.imp fun _ _ hx=>PK keep hx,?_⟩,?_,?_⟩
 ·refine⟨Fs++[F'],⟨by simp[h1],fun n B G hB hG=> ?_⟩,?_⟩
  ·by_cases wC:n<jq.length
   ·rw[AND wC]at hB
    rw[AND (by omega)]at hG;have:=h2 n B G hB hG;have hGw:∀c∈G,w'.heap[c]? =w.heap[c]?:=fun c hc=>hF0 c (ASW.2 ⟨G,ANe hG,hc⟩)
    cases B with
    |mem cs=>
     obtain⟨rfl,arr,ty,fr,a1,a2,a3⟩:=this;exact⟨rfl,arr,ty,fr,(hGw (E1.H0 n) (by simp)).trans a1,a2,a3.imp fun _ _ hv=>GM w4 hv⟩
    |sl d0 r0 Rt=>
     refine⟨this.1,?_⟩;have e0:E'.H3 n=E1.H3 n:=by grind[Env.a_]
     rw[e0];exact Eb (fun _ hc=>hc) (fun c hc=>x_ c (h3.st c hc)) hGw this.2
    |dead=>exact this
   ·have yr:=(AMG.1 hB).1
    simp at yr;obtain rfl:n=jq.length:=by omega
    rw[ANg (by omega)]at hB hG;simp[h1]at hB hG;subst hB hG;refine⟨hd,?_⟩;grind[Env.a_]
  ·simp only[ATn,ATt,AVv,AM3]
   have nd0:=AM6.1 h3.nodup;refine⟨AM6.2 ⟨nd0.1,nd,fun x hx y hy e=> ?_⟩,fun c hc ht=> ?_,fun c hc=> ?_,h3.st,fun c hc=>ATM (h3.cf c hc) g.size⟩
   ·grind
   ·rcases AOl.1 hc with hc|hc
    ·exact h3.free c (by simp[hc]) ht
    ·rcases hF' c hc with h|h
     ·exact h3.free c (by simp[h]) ht
     ·have:=h3.cf c ht;omega
   ·rcases AOl.1 hc with hc|hc
    ·exact ATM (h3.lt c (by simp[hc])) g.size
    simp_all
 ·refine⟨⟨k.le.T,k.le.S,k.le.Tof,k.le.Sof,fun c hc=>x_ c (k.le.T c hc),g.os,g.tape,g.output,g.size⟩,by simp[hn],fun b hb=>⟨by show E1.H0 b=_;rw[k.le.H0],?_⟩,fun b hb=> ?_,fun n B B' _ hB TV qt=> ?_⟩
  ·have:E'.H3 b=E1.H3 b:=by grind[Env.a_]
   rw[this,k.le.H3]
  ·have hbl:=(AMG.1 hb).1
   rw[AND (by omega)];obtain⟨B,hB⟩:∃B,jq[b]? =some B:=⟨_,ALR (by omega)⟩;rcases k.within b B hB with e|e
   all_goals simp_all
  ·have wC:=(AMG.1 hB).1
   rw[AND (by omega)]at TV;rcases k.within n B' TV with e|e
   ·simp_all
   rw[hB]at e;cases e;refine⟨U5.refl qt,fun c hc=> ?_⟩;have hF:Fs[n]? =some (Fs[n]'(by omega)):=ALR _;have hR:=h2 n B _ TV hF;have Zf:xy E1 w n B c:=by
    cases B with
    |mem cs=>simp only[xy]at hc⊢;rw[k.le.H0];omega
    |sl d r rows=>simp only[xy]at hc⊢;rw[k.le.H3];omega
    |dead=>exact hc
   rcases eU hR Zf with hs|hs
   ·exact x_ c (h3.st c hs)
   grind[List.mem_flatten,List.mem_of_getElem?]
 ·have e0:E'.H3 jq.length=v:=by simp[E',Env.a_]
  refine⟨?_,?_⟩
  ·have:=Xh ho
   simp only[Rd]at this;obtain⟨_,_,e,_⟩:=this;simp only[AQY,ATS]at e;rw[e];rfl
  ·have:(jq++[Bx.sl d r rows])[jq.length]? =some (.sl d r rows):=by simp
   rw[this];exact⟨by simp[DF],⟨_,rfl⟩,by rw[e0,DA]⟩
theorem p_{E:Env}{σ:St}{a:Act}{w:World}(h:Rel E σ a w){cs:List AV}{arr:Array Value}(ty:TypeId)(hv:iy E w σ.bx cs arr.toList):
  let E':=E.eW σ.bx.length w.heap.size
  let w':=w.alloc (.cells arr ty)
  Rel E' (σ.new (.mem cs)) a w'∧RJ [] E σ.bx w E' (σ.new (.mem cs)).bx w'∧XR E' w' (σ.new (.mem cs)).bx (.c (.IL σ.bx.length 0)) (.pointer (some ⟨w.heap.size,0,none⟩)):=by
 intro E' w';have st:=h.bx.st;have hw:∀c,c<w.heap.size→c∉([]:ABJ)→w'.heap[c]? =w.heap[c]?:=fun c hc _=>by
  show(w.heap.push (.cells arr ty))[c]? =_
  grind
 have hB0:=h.bx;have keep:Sh E w σ.bx E' w' (σ.bx++[.mem cs]):=gD (HE.refl hB0) st (by simp) (fun b B hb e=>by
   grind) (fun b hb=>by grind[Env.eW]) (fun b _=>rfl) rfl rfl hw
 obtain⟨Fs,⟨h1,h2⟩,h3⟩:=h.bx;simp only[AM3]at h3;have new:w'.heap[w.heap.size]? =some (.cells arr ty):=by
  show(w.heap.push (.cells arr ty))[w.heap.size]? =_
  simp
 refine⟨⟨h.NO,h.tm.imp fun _ _ hx=>PK keep hx,?_⟩,?_,?_⟩
 ·refine⟨Fs++[[w.heap.size]],⟨by simp[St.new,h1],fun n B G hB hG=> ?_⟩,?_⟩
  ·simp only[St.new]at hB
   by_cases wC:n<σ.bx.length
   ·rw[AND wC]at hB
    rw[AND (by omega)]at hG;have:=h2 n B G hB hG;have hGw:∀c∈G,w'.heap[c]? =w.heap[c]?:=fun c hc=>hw c (h3.lt c (by simp;grind)) (by simp)
    have eb:E'.H0 n=E.H0 n:=by grind[Env.eW]
    cases B with
    |mem cs0=>
     obtain⟨rfl,arr0,ty0,fr,a1,a2,a3⟩:=this;refine⟨by rw[eb],arr0,ty0,fr,?_,a2,a3.imp fun _ _ hv=>GM keep hv⟩;simp_all
    |sl d0 r0 Rt=>exact⟨this.1,Eb (fun _ hc=>hc) (fun c hc=>hw c (h3.cf c (st c hc)) (by simp)) hGw this.2⟩
    |dead=>exact this
   ·have yr:=(AMG.1 hB).1
    simp at yr;obtain rfl:n=σ.bx.length:=by omega
    rw[ANg (by omega)]at hB hG;simp[h1]at hB hG;subst hB hG;have eb:E'.H0 σ.bx.length=w.heap.size:=by simp[E',Env.eW]
    refine⟨by rw[eb],arr,ty,(0,0),by simp_all,fun i _ h=>by omega,hv.imp fun _ _ hv=>GM keep hv⟩
  ·simp only[ATn,ATt,AVv,AM3]
   refine⟨AM6.2 ⟨h3.nodup,by simp,fun x hx y hy e=> ?_⟩,fun c hc ht=> ?_,fun c hc=> ?_,h3.st,fun c hc=> ?_⟩
   ·subst e
    simp at hy;have:=h3.lt x hx;omega
   ·rcases AOl.1 hc with hc|hc
    ·exact h3.free c hc ht
    ·simp at hc;have:=h3.cf c ht;omega
   ·rcases AOl.1 hc with hc|hc
    ·have:=h3.lt c hc;grind
    grind
   ·have:=h3.cf c hc;grind
 ·refine⟨⟨fun _ h=>h,fun _ h=>h,fun _ h=> .inl h,fun _ h=> .inl h,fun c hc=>hw c (h3.cf c hc) (by simp),rfl,rfl,rfl,by simp[w']⟩,by simp[St.new],fun b hb=>⟨?_,rfl⟩,fun b hb=> ?_,fun n B B' _ hB TV qt=> ?_⟩
  ·grind[Env.eW]
  ·grind[List.getElem?_eq_some_iff,St.new,List.getElem?_append_left]
  ·have wC:=(AMG.1 hB).1
   simp only[St.new]at TV;rw[AND wC,hB]at TV;cases TV;refine⟨U5.refl qt,fun c hc=> ?_⟩;have hF:Fs[n]? =some (Fs[n]'(by omega)):=ALR _;rcases eU (h2 n B _ hB hF) hc with hs|hs
   ·exact hw c (h3.cf c (st c hs)) (by simp)
   ·exact hw c (h3.lt c (ASW.2 ⟨_,ANe hF,hs⟩)) (by simp)
 ·refine⟨by simp[St.new],?_⟩
  simp[E',Env.eW]
end Go.Fw
end
section
namespace Go.Fw
theorem Gw:∀r:Ty,(Et r).length=r.n
 | .cons c r=>by simp[Et,Ty.n,Gw r]
 | .unit=>rfl
 | .int _=>rfl
 | .bool=>rfl
 | .str=>rfl
 | .sl _=>rfl
theorem aR{E:Env}{w:World}{vw:List Bx}(t:Ty):VR E w vw (zb t) (zv t):=by
 cases t<;>first
  |exact VR.int _ _
  |exact VR.bool _
  |exact VR.str _
  |rfl
  |trivial
theorem Yu{E:Env}{w:World}{vw:List Bx}:∀r:Ty,iy E w vw (bX r) (Et r)
 | .cons c r=>⟨aR c,Yu r⟩
 | .unit=>trivial
 | .int k=>⟨aR (.int k),trivial⟩
 | .bool=>⟨aR .bool,trivial⟩
 | .str=>⟨aR .str,trivial⟩
 | .sl r=>⟨aR (.sl r),trivial⟩
theorem eD{w:World}{S:Nat→Prop}{d:Nat}:∀{r:Ty},r.ta=true→Ow w S d r (Et r) r.z []
 | .cons c r,h=>by
  simp only[Ty.ta,AMC]at h;simp only[Ow,Et];refine⟨_,_,[],[],rfl,rfl,?_,eD h.2⟩;cases c with
  |sl q=>exact n_
  |int k=>simp[Ow,zv,Ty.z]
  |bool=>simp[Ow,zv,Ty.z]
  |str=>simp[Ow,zv,Ty.z]
  |unit=>simp[Ty.cell]at h
  |cons _ _=>simp[Ty.cell]at h
 | .unit,_=>by simp[Ow,Et]
 | .int k,_=>by simp[Ow,Et,zv,Ty.z]
 | .bool,_=>by simp[Ow,Et,zv,Ty.z]
 | .str,_=>by simp[Ow,Et,zv,Ty.z]
 | .sl q,_=>n_
theorem Ya{n:Nat}:∀{css:List (List Value)} {ex:List Value} {i j:Nat} {cs:List Value},(∀c∈css,c.length=n)→css[i]? =some cs→j<n→(css.flatten++ex)[i*n+j]? =cs[j]?
 |[],_,_,_,_,_,h,_=>by simp at h
 |c::css,ex,0,j,cs,hl,h,hj=>by
  grind
 |c::css,ex,i+1,j,cs,hl,h,hj=>by
  have hc:=hl c (by simp);have ih:=Ya (css:=css) (ex:=ex) (i:=i) (j:=j) (cs:=cs) (fun c' Zf=>hl c' (AXi _ Zf)) (by simp_all) hj;simp only[ATt,AM_];rw[ANg (by grind),←ih];congr 1;grind
theorem nG{w:World}{b:Nat}{arr:Array Value}{ty:TypeId}{fr:ADE}(hb:w.heap[b]? =some (.cells arr ty fr)){n:Nat}{css:List (List Value)}{ex:List Value}(ha:arr.toList=css.flatten++ex)
  (hl:∀c∈css,c.length=n) {i:Nat} {cs:List Value} (h:css[i]? =some cs):Bc w b (i*n) cs:=by
 intro j v hj;have hjn:j<n:=by
  grind
 simp only[World.cell?,hb,ATX,AMH,AON];rw[←Array.getElem?_toList,ha,Ya hl h hjn,hj]
theorem dQ{w:World}{S:Nat→Prop}{d b cap:Nat}{r:Ty}{rows:List r.D}{arr:Array Value}{ty:TypeId}{fr:ADE}(hb:w.heap[b]? =some (.cells arr ty fr)){css:List (List Value)}{ex:List Value}
  (ha:arr.toList=css.flatten++ex) (hc:css.length=rows.length) (yO:rows.length≤cap) (PN:cap*r.n≤arr.size) (hu:xM fr (arr.size+mk r)) {Fs:List ABJ} (hF:Fs.length=rows.length)
  (cR:∀(i:Nat) cs y G,css[i]? =some cs→rows[i]? =some y→Fs[i]? =some G→Ow w S d r cs y G):
  Ow w S (d+1) (.sl r) [.slice (some ⟨b,0,none⟩) rows.length cap] rows (b::Fs.flatten):=by
 have hl:∀c∈css,c.length=r.n:=by
  intro c Zf;obtain⟨i,hi,rfl⟩:=AQQ Zf;exact Xo (cR i _ _ _ (ALR hi) (ALR (by omega)) (ALR (by omega)))
 simp only[Ow];refine⟨_,cap,rfl,yO,.inr ⟨b,0,arr,ty,fr,Fs,rfl,hb,by omega,hu,rfl,hF,fun i y G hy hG=> ?_⟩⟩;have hi:i<css.length:=by
  grind
 refine⟨css[i],hl _ (AMk hi),?_,cR i _ y G (ALR hi) hy hG⟩;rw[ATf];grind[nG,List.getElem?_eq_getElem]
theorem WQ(n:Nat):xM (0,0) n:=fun i _ h=>by omega
theorem Iz{w:World}{o:Obj}{c:Nat}(h:c<w.heap.size):(w.heap.push o)[c]? =w.heap[c]?:=by
 grind
section
variable{Y:Type} {P:Program} {T:Jp} (hT:Em P T) {o:Oper} {E:Env} {σ:St} {a:Act} {w:World} {k:K Y} {y:Y}
theorem AFH(h:Rel E σ a w){t:TypeId}{x:Operand}(ho:o.op= .box t x)(hk:(σ.ev x).cells.all AV.known=true)(hn:(σ.ev x).cells≠[])(e:k (.c (.IL σ.bx.length 0)) (σ.new (.mem (σ.ev x).cells))=some y):
  LH P o E σ a w k y:=by
 obtain⟨h1,h2⟩:=pM (h.ev x) hk hn;obtain⟨r1,r2,r3⟩:=p_ h t h1;refine⟨_,_,_,_,_,.inl ?_,r1,r3,r2.any,rfl,e⟩;simp only[execOp,ho,Instr.box,newVar,newRow,Sem.run_bind,run_newObj,Result.andThen_ok,Sem.run_pure];rfl
include hT
theorem row_zero{t:Nat}{r:Ty}(e:T.iT t=some r):∃i z,P.info? t=some i∧i.zero=some z∧z.cells.toList=Et r∧r.ta=true:=by
 unfold Jp.iT at e;split at e
 ·rename_i ti Uv
  obtain⟨i,h1,_,_,h2⟩:=(hT t ti Uv).info;simp_all
 simp_all
theorem zH(h:Rel E σ a w){t:TypeId}(ho:o.op= .alloc t){r:Ty}(hr:T.iT t=some r)(e:k (.c (.IL σ.bx.length 0)) (σ.new (.mem (bX r)))=some y):LH P o E σ a w k y:=by
 obtain⟨i,z,h1,h2,h3,_⟩:=row_zero hT hr;obtain⟨r1,r2,r3⟩:=p_ (arr:=z.cells) h t (by rw[h3];exact Yu r);refine⟨_,_,_,_,_,.inl ?_,r1,r3,r2.any,rfl,e⟩;simp only[execOp,ho,Instr.alloc,zeroValue,typeInfo,newVar,newRow,Sem.run_bind,run_program,Result.andThen_ok,h1,h2,run_newObj,Sem.run_pure];rfl
end
end Go.Fw
end
section
namespace Go.Fw
def FJ(arr:Array Value):Nat→List Value→Array Value
 |_,[]=>arr
 |o,c::l=>FJ (arr.setIfInBounds o c) (o+1) l
theorem Fh:∀(l:List Value) (o:Nat) (arr:Array Value),(FJ arr o l).size=arr.size
 |[],_,_=>rfl
 |c::l,o,arr=>by simp[FJ,Fh l]
theorem og(off:Nat):∀(l:List Value) (k:Nat) (arr:Array Value),(l.zipIdx k).foldl (fun cs (q:Value×Nat)=>cs.setIfInBounds (off+q.2) q.1) arr=FJ arr (off+k) l
 |[],_,_=>rfl
 |c::l,k,arr=>by
  simp only[List.zipIdx_cons,List.foldl_cons,FJ];rw[og off l (k+1)];rfl
theorem Xa{E:Env}{w:World}{vw:List Bx}:∀{xs:List AV} {vs:List Value} {cs dx:List AV} {arr:Array Value} {o:Nat},iy E w vw cs arr.toList→iy E w vw xs vs→XF cs o xs=some dx→
  iy E w vw dx (FJ arr o vs).toList∧o+xs.length≤cs.length∨(xs=[]∧dx=cs)
 |[],[],cs,dx,arr,o,h,_,e=>by simp only[XF,ALt]at e;simp_all
 |x::xs,v::vs,cs,dx,arr,o,h,hx,e=>by
  simp only[XF]at e;split at e
  case isFalse=>cases e
  rename_i ho;have h1:iy E w vw (cs.set o x) (arr.setIfInBounds o v).toList:=by
   rw[Array.toList_setIfInBounds];exact Ca.set h hx.1
  rcases Xa h1 hx.2 e with⟨h2,h3⟩|⟨rfl,rfl⟩
  ·refine .inl ⟨h2,?_⟩
   grind
  ·cases vs with
   |nil=>exact .inl ⟨h1,by grind⟩
   |cons _ _=>exact hx.2.elim
 |[],_::_,_,_,_,_,_,hx,_=>hx.elim
 |_::_,[],_,_,_,_,_,hx,_=>hx.elim
section
variable{Y:Type} {P:Program} {T:Jp} (hT:Em P T) {o:Oper} {E:Env} {σ:St} {a:Act} {w:World} {k:K Y} {y:Y}
def zk(E:Env)(w:World)(vw:List Bx)(l:List (Nat×XV))(m:List (Nat×Value)):Prop:=Ca (fun x v=>x.1=v.1∧XR E w vw x.2 v.2) l m
theorem pB(h:Rel E σ a w)(ps:Array (Nat×Operand)):zk E w σ.bx (ps.toList.map fun q=>(q.1,σ.ev q.2)) (ps.map fun(i,x)=>(i,a.eval x)).toList:=by
 rw[Array.toList_map]
 generalize ps.toList=l
 induction l with
 |nil=>trivial
 |cons q l ih=>exact⟨⟨rfl,h.ev q.2⟩,ih⟩
theorem sg{place:Nat→Option ADE}{i off size:Nat}(hp:place i=some (off,size)){cells:Array Value}{v:Value}{rest:List (Nat×Value)}(h1:v.cells.size=size)(h2:off+v.cells.size≤cells.size):
  Instr.fill place cells ((i,v)::rest)=Instr.fill place (FJ cells off v.cells.toList) rest:=by
 have e:v.cells.zipIdx.foldl (fun cs (q:Value×Nat)=>cs.setIfInBounds (off+q.2) q.1) cells=FJ cells off v.cells.toList:=by
  rw[←Array.foldl_toList];have:(v.cells.zipIdx).toList=v.cells.toList.zipIdx:=by simp
  rw[this];exact og off v.cells.toList 0 cells
 conv=>lhs;unfold Instr.fill
 grind
theorem qN{α β:Type}{f:α→Option β}{g:α→β}:∀{l:List α},(∀x∈l,f x=some (g x))→l.mapM f=some (l.map g)
 |[],_=>rfl
 |x::l,h=>by
  simp only[AXs,h x (by simp),qN (l:=l) (g:=g) (fun y hy=>h y (by simp[hy]))];rfl
include hT
theorem au{fs:List ADE}{vw:List Bx}:∀{parts:List (Nat×XV)} {vals:List (Nat×Value)} {cs dx:List AV} {arr:Array Value},zk E w vw parts vals→iy E w vw cs arr.toList→fp T fs cs parts=some dx→
  ∃KG:Array Value,Instr.fill (fun i=>(fs[i]?).bind fun q=>((P.info? q.2).map fun i=>(q.1,i.size))) arr vals=some KG∧iy E w vw dx KG.toList
 |[],[],cs,dx,arr,_,h,e=>by
  simp only[fp,ALt]at e;subst e;exact⟨arr,rfl,h⟩
 |(i,x)::ps,(j,v)::vs,cs,dx,arr,hp,h,e=>by
  obtain⟨⟨zU,hx⟩,hp⟩:=hp;simp only at zU hx;subst zU;simp only[fp]at e;split at e
  case h_2=>cases e
  rename_i off u hf;split at e
  case h_2=>cases e
  rename_i ti Uv;split at e
  case isFalse=>cases e
  rename_i hc;obtain⟨c1,c2,c3⟩:=hc;simp only[AMR]at e;obtain⟨cs1,e1,e2⟩:=e;have bd:x.cells≠[]:=by grind
  obtain⟨x1,x2⟩:=pM hx c3 bd;rcases Xa h x1 e1 with⟨s1,s2⟩|⟨s1,_⟩
  ·have PN:v.cells.size=ti.size:=by
    have:=x1.len;simp_all
   have hlen:=h.len;obtain⟨KG,f1,f2⟩:=au hp s1 e2;refine⟨KG,?_,f2⟩;have AbR:(fun i=>(fs[i]?).bind fun q=>((P.info? q.2).map fun i=>(q.1,i.size))) i=some (off,ti.size):=by
    have:=Em.size hT Uv;simp_all
   grind[sg]
  simp_all
 |[],_::_,_,_,_,hp,_,_=>hp.elim
 |_::_,[],_,_,_,hp,_,_=>hp.elim
theorem yn(h:Rel E σ a w){t:TypeId}{ps:Array (Nat×Operand)}(ho:o.op= .build t ps){s b:Nat}{fs:List ADE}{rw:Option Ty}(Uv:T.get t=some ⟨s,b,.st fs,rw⟩){r:Ty}(hr:T.iT t=some r)
  {cs:List AV} (hb:fp T fs (bX r) (ps.toList.map fun q=>(q.1,σ.ev q.2))=some cs) (e:k (.agg cs) σ=some y):LH P o E σ a w k y:=by
 obtain⟨i,z,h1,h2,h3,_⟩:=row_zero hT hr;obtain⟨fields,hu,hfs,PN⟩:=AHR hT Uv;obtain⟨KG,f1,f2⟩:=au hT (pB h ps) (arr:=z.cells) (by grind[Yu]) hb;refine LH.same h (v:= .agg KG) (x:= .agg cs) ?_ ⟨KG,rfl,f2⟩ e
 have hb:P.built t (ps.map fun(i,x)=>(i,a.eval x)).toList=some KG:=by
  unfold Program.built;simp only[h1,hu,h2];have hm:fields.toList.mapM (fun f=>(P.info? f.type).map fun i=>(f.offset,i.size))=some (fields.toList.map fun f=>(f.offset,((P.info? f.type).map (·.size)).getD 0)):=by
   grind[qN]
  simp only[hm];rw[←f1];congr 1;funext n;subst hfs;simp only[List.getElem?_toArray,AQt];cases hn:fields.toList[n]? with
  |none=>simp
  |some f=>
   obtain⟨i',Dh,_⟩:=PN f (ANe hn);simp[Dh]
 grind[run_build,execOp,Sem.run_bind,Result.andThen_ok,Sem.run_pure]
end
end Go.Fw
end
section
namespace Go.Fw
theorem wrap_small{n:Int}(h0:0≤n)(h1:n≤(Dw:Int)):IntKind.i64.wrap n=n:=by
 simp only[Dw]at h1;unfold IntKind.wrap;simp only[IntKind.bits,IntKind.signed];grind
theorem HD{m:Nat}{zl:List Value}:((List.replicate m zl).flatten).length=m*zl.length:=by
 simp_all
theorem NM{zl:List Value}:∀{m i:Nat},i<m*zl.length→((List.replicate m zl).flatten)[i]? =zl[i%zl.length]?
 |0,i,h=>by omega
 |m+1,i,h=>by
  simp only[List.replicate_succ,ATt];by_cases hi:i<zl.length
  ·rw[AND hi,Nat.mod_eq_of_lt hi]
  ·have Dh:zl.length≤i:=by omega
   rw[ANg Dh,NM (by grind),←Nat.mod_eq_sub_mod Dh]
theorem V5{zero:Array Value}{zl:List Value}(hz:zero.toList=zl)(m:Nat)(h0:zl≠[]):((Array.range (m*zl.length)).map (fun i=>zero[i%zero.size]!)).toList=(List.replicate m zl).flatten:=by
 have hs:zero.size=zl.length:=by grind
 have AK2:0<zl.length:=AXk.2 h0;apply AVM;intro i;by_cases hi:i<m*zl.length
 ·grind[NM,Nat.mod_lt,Array.toList_map,Array.toList_range,List.getElem?_range,List.getElem?_eq_getElem]
 simp_all
section
variable{Y:Type} {P:Program} {T:Jp} (hT:Em P T) {o:Oper} {E:Env} {σ:St} {a:Act} {w:World} {k:K Y} {y:Y}
include hT
theorem WU{e:Nat}{ti:TI}{r:Ty}(he:T.get e=some ti)(hr:ti.row=some r):∃i z,P.info? e=some i∧i.size=ti.size∧i.bytes=ti.bytes∧i.zero=some z∧z.cells.toList=Et r∧r.ta=true:=by
 obtain⟨i,h1,h2,h3,h4⟩:=(hT e ti he).info;simp_all
theorem ABl(h:Rel E σ a w){t:TypeId}{l c:Operand}(ho:o.op= .makeSlice t l c)(e:su T t σ (σ.ev l) (σ.ev c) k=some y):LH P o E σ a w k y:=by
 unfold su at e;split at e
 case h_2=>cases e
 rename_i el n m hd hl hc;split at e
 case h_2=>cases e
 rename_i r hr;split at e
 case isFalse=>cases e
 rename_i UR;split at e
 case isFalse=>cases e
 rename_i hb;obtain⟨b0,b1,b2⟩:=hb;obtain⟨el',ti,hu,Uv,hs,hby,hrow⟩:=KX hT UR;obtain⟨i,z,i1,i2,i3,i4,i5,hg⟩:=WU hT Uv hrow;obtain⟨κ1,e1⟩:=Ic hl (h.ev l);obtain⟨κ2,e2⟩:=Ic hc (h.ev c);have w1:=wrap_small b0 (by omega);have w2:=wrap_small (n:=m) (by omega) b2
 let arr:Array Value:=(Array.range (m.toNat*r.n)).map (fun j=>(if m.toNat*r.n=0 then #[]else z.cells)[j%(if m.toNat*r.n=0 then(#[]:Array Value)else z.cells).size]!)
 have cU:arr.toList=(List.replicate n.toNat (Et r)).flatten++(List.replicate (m.toNat-n.toNat) (Et r)).flatten:=by
  have hz:=Gw r;have split:(List.replicate n.toNat (Et r)).flatten++(List.replicate (m.toNat-n.toNat) (Et r)).flatten=(List.replicate m.toNat (Et r)).flatten:=by
   grind[List.flatten_append,List.replicate_append_replicate]
  rw[split];by_cases h0:m.toNat*r.n=0
  ·grind[List.length_eq_zero_iff,HD]
  ·have bd:Et r≠[]:=by
    grind
   have:=V5 i5 m.toNat bd;grind
 let w':=w.alloc (.cells arr el')
 have new:w'.heap[w.heap.size]? =some (.cells arr el'):=by
  show(w.heap.push (.cells arr el'))[w.heap.size]? =_
  simp
 have AMz:arr.size=m.toNat*r.n:=by simp[arr]
 have how:Ow w' E.S (8+1) (.sl r) [.slice (some ⟨w.heap.size,0,none⟩) (List.replicate n.toNat r.z).length m.toNat] (List.replicate n.toNat r.z) (w.heap.size::(List.replicate n.toNat ([]:ABJ)).flatten):=by
  refine dQ new cU (by simp) (by grind) (by omega) (WQ _) (by simp) fun i cs y G h1 h2 h3=> ?_
  simp only[List.getElem?_replicate]at h1 h2 h3;split at h1
  ·rename_i hi
   rw[ALP hi]at h2 h3;grind[eD]
  simp_all
 have hF:(List.replicate n.toNat ([]:ABJ)).flatten=[]:=by simp
 rw[hF]at how;simp only[AWX]at how;obtain⟨r1,r2,r3⟩:=TO h (HE.refl h.bx) (w':=w') (d:=9) (by omega) how (by simp) (by simp) (by simp[w']) (fun c hc _=>Iz hc) ⟨rfl,rfl,rfl,by simp[w']⟩;refine⟨_,_,_,_,_,.inl ?_,r1,r3,r2.any,rfl,e⟩;have Aay:(i.bytes:Int)*m≤2^48:=by
  have h1:(i.bytes:Int)≤512:=by omega
  have h2:(i.bytes:Int)*m≤512*m:=Int.mul_le_mul_of_nonneg_right h1 (by omega);grind[Dw]
 simp only[execOp,ho,Instr.makeSlice,e1,e2,Sem.run_bind,Ba hu,Result.andThen_ok,asInt,asIntOf,Sem.run_pure,typeInfo,run_program,i1,w1,w2];rw[ALo (by grind)];by_cases h0:m.toNat*r.n=0
 ·have e3:arr=(Array.range (m.toNat*r.n)).map (fun j=>(#[]:Array Value)[j%(#[]:Array Value).size]!):=by simp_all
  simp only[Sem.run_bind,run_askRoom,Result.andThen_ok,sizeOf,typeInfo,run_program,i1,Sem.run_pure,i2,hs,h0,ATK,newRow,run_newObj];simp only[w',e3,h0];rfl
 ·have e3:arr=(Array.range (m.toNat*r.n)).map (fun j=>z.cells[j%z.cells.size]!):=by grind
  simp only[Sem.run_bind,run_askRoom,Result.andThen_ok,sizeOf,typeInfo,run_program,i1,Sem.run_pure,i2,hs,h0,AON,newRow,run_newObj,zeroValue,i4];simp only[w',e3];rfl
end
end Go.Fw
end
section
namespace Go.Fw
theorem iJ{w:World}{B S:Nat→Prop}{d:Nat}:∀{r:Ty} {cs:List Value} {x:r.D},r.flat=true→Rd w B r cs x→Ow w S d r cs x []
 | .cons c r,cs,x,h,hr=>by
  simp only[Ty.flat,AMC]at h;simp only[Rd]at hr;obtain⟨v,l,rfl,h1,h2⟩:=hr;simp only[Ow];exact⟨v,l,[],[],rfl,rfl,iJ h.1 h1,iJ h.2 h2⟩
 | .unit,_,_,_,hr=>by grind[Rd,Ow]
 | .int k,_,_,_,hr=>by grind[Rd,Ow]
 | .bool,_,_,_,hr=>by grind[Rd,Ow]
 | .str,_,_,_,hr=>by grind[Rd,Ow]
 | .sl q,_,_,h,_=>by simp[Ty.flat]at h
theorem Lf{P:Program}{w:World}{b o:Nat}{cs:List Value}(h:Bc w b o cs):(loadCells ⟨b,o,none⟩ cs.length).run P w= .ok cs.toArray w:=
 run_loadCells_list (P:=P) w ⟨b,o,none⟩ cs fun j v hv=>by rw[Addr.add_eq];exact h j v hv
theorem Wn{l:List Value}:(l.map fun v=>[v]).flatten=l:=by
 induction l with
 |nil=>rfl
 |cons a l ih=>simp[ih]
theorem o8{w:World}{B:Nat→Prop}{r:Ty}{b o:Nat}{ys:List r.D}(h:∀(i:Nat) (y:r.D),ys[i]? =some y→ ∃cs,cs.length=r.n∧Bc w b (o+i*r.n) cs∧Rd w B r cs y):
  ∃css:List (List Value),css.length=ys.length∧(∀c∈css,c.length=r.n)∧Bc w b o css.flatten∧ ∀(i:Nat) cs y,css[i]? =some cs→ys[i]? =some y→Rd w B r cs y:=by
 induction ys generalizing o with
 |nil=>exact⟨[],rfl,by simp,fun _ _ h=>by simp at h,fun i cs y h=>by simp at h⟩
 |cons y ys ih=>
  obtain⟨cs,c1,c2,c3⟩:=h 0 y rfl;obtain⟨css,d1,d2,d3,d4⟩:=ih (o:=o+r.n) (fun i z hz=>by
   obtain⟨cs,e1,e2,e3⟩:=h (i+1) z (by simp_all);grind)
  refine⟨cs::css,by simp[d1],by simp_all,?_,?_⟩
  ·intro j v hj
   simp only[ATt]at hj;by_cases qq:j<cs.length
   ·rw[AND qq]at hj
    have:=c2 j v hj;simp_all
   ·rw[ANg (by omega)]at hj
    have:=d3 _ v hj;grind
  grind
theorem Bc.append{w:World}{b o:Nat}{l m:List Value}(h:Bc w b o l)(k:Bc w b (o+l.length) m):Bc w b o (l++m):=by
 intro j v hj;by_cases qq:j<l.length
 ·rw[AND qq]at hj
  exact h j v hj
 ·rw[ANg (by omega)]at hj
  have:=k _ v hj;grind
section
variable{Y:Type} {P:Program} {T:Jp} (hT:Em P T) {o:Oper} {E:Env} {σ:St} {a:Act} {w:World} {k:K Y} {y:Y}
theorem Iy(hT:Em P T){t:Nat}{d:TD}(e:(T.get t).map TI.desc=some d):gJ P t d:=by
 simp only[AL9]at e;obtain⟨ti,h1,rfl⟩:=e;exact(hT t ti h1).und
theorem qH{src dst e:Nat}(hs:P.underlying src=some (.slice e))(he:P.underlying e=some (.int .u8))(hd:P.underlying dst=some .string){x:Value}{l:AAH}{B:Nat→Prop}
  (h:Rd w B (.sl (.int .u8)) [x] l):(convert src dst x).run P w= .ok (.string ⟨(l.map fun n:Int=>UInt8.ofNat n.toNat).toArray⟩) w:=by
 simp only[Rd]at h;obtain⟨a,cap,hx,hle,h⟩:=h;simp only[AQY,ATS]at hx;subst hx;rcases h with h|⟨b,o,rfl,_,h⟩
 ·obtain rfl:=APu h
  cases a with
  |none=>exact run_convert_bytes_nil w src e hs he _ _ dst hd
  |some a=>
   rw[run_convert_bytes_string w src dst e _ _ cap hs he hd];rfl
 ·refine run_convert_bytes_arg w src e hs he b o _ cap l rfl (fun i hi=> ?_) dst hd
  obtain⟨cs,c1,c2,c3⟩:=h i _ (ALR hi);subst c3;have:=c2 0 _ rfl;grind
include hT in
theorem ABR(h:Rel E σ a w){src dst:Nat}{x:Operand}(ho:o.op= .convert src dst x)(e:sX T src dst σ (σ.ev x) k=some y):LH P o E σ a w k y:=by
 have hx:=h.ev x;unfold sX at e;split at e
 ·rename_i κ0 κ j n hs hd hv
  have h1:=Iy hT hs;have h2:=Iy hT hd;rw[hv]at hx;have YQ:=aq (E:=E) (w:=w) (vw:=σ.bx) hx;refine LH.same h (v:= .int κ (κ.wrap n)) (x:= .c (.v (.int κ) (κ.wrap n))) ?_ (VR.int (E:=E) (vw:=σ.bx) _ _) e
  simp only[gJ]at h1 h2;simp only[execOp,ho,YQ,convert,Sem.run_bind,Ba h1,Ba h2,Result.andThen_ok,Conv.intToInt,Sem.run_pure]
 ·rename_i s hs hd hv
  have h1:=Iy hT hs;have h2:=Iy hT hd;rw[hv]at hx;have YQ:=W4 (E:=E) (w:=w) (vw:=σ.bx) hx;refine LH.same h (v:= .string ⟨s.toArray⟩) (x:= .c (.v .str s)) ?_ (VR.str (E:=E) (vw:=σ.bx) _) e
  simp only[gJ]at h1 h2;simp only[execOp,ho,YQ,convert,Sem.run_bind,Ba h1,Ba h2,Result.andThen_ok,Sem.run_pure]
 ·rename_i el s hs hd hv
  have h1:=Iy hT hs;have h2:=Iy hT hd;rw[hv]at hx;have YQ:=W4 (E:=E) (w:=w) (vw:=σ.bx) hx;split at e
  case h_2=>cases e
  rename_i UR;have h3:=Iy hT UR;split at e
  case isFalse=>cases e
  rename_i Xx;simp only[gJ]at h1 h2 h3
  let S0:ByteArray:=⟨s.toArray⟩
  have PN:S0.size=s.length:=by simp[S0,ByteArray.size]
  have lM:=Lib.run_convert_string_bytes (P:=P) w src dst el S0 h1 h2 h3;have yO:s.length≤grownCap w S0.size 0 el:=by rw[PN];exact grownCap_ge _ _ _ _
  have new:=Lib.bytesWorld_at_new w el S0;have cU:(Lib.bytesCells w el S0).toList=(s.map fun c=>[Value.int .u8 (c.toNat:Int)]).flatten++List.replicate (grownCap w S0.size 0 el-S0.size) (.int .u8 0):=by
   have:(s.map fun c=>[Value.int .u8 (c.toNat:Int)]).flatten=s.map fun c=>Value.int .u8 (c.toNat:Int):=by
    have:=Wn (l:=s.map fun c=>Value.int .u8 (c.toNat:Int));simpa[ATx,Function.comp_def]using this
   rw[this];simp[Lib.bytesCells,S0]
  have AMz:(Lib.bytesCells w el S0).size=grownCap w S0.size 0 el:=by
   rw[←AVV,cU];have:((s.map fun c=>[Value.int .u8 (c.toNat:Int)]).flatten).length=s.length:=by
    have:=Wn (l:=s.map fun c=>Value.int .u8 (c.toNat:Int));rw[ATx]at this;have e2:(s.map fun c=>[Value.int .u8 (c.toNat:Int)])=s.map ((fun v=>[v])∘fun c=>Value.int .u8 (c.toNat:Int)):=rfl;rw[e2,this];simp
   rw[AOs,this,AWX];omega
  have how:Ow (Lib.bytesWorld w el S0) E.S (8+1) (.sl (.int .u8)) [.slice (some ⟨w.heap.size,0,none⟩) (s.map fun c=>(c.toNat:Int)).length (grownCap w S0.size 0 el)] (s.map fun c=>(c.toNat:Int))
    (w.heap.size::(List.replicate s.length ([]:ABJ)).flatten):=by
   refine dQ (css:=s.map fun c=>[Value.int .u8 (c.toNat:Int)]) new cU (by simp) (by simpa using yO) (by simp[Ty.n];omega) (fun i hi hh=>by simp only[mk]at hi;omega) (by simp) fun i cs y G q1 q2 q3=> ?_
   simp only[AQt,AL9]at q1 q2;obtain⟨c1,z1,rfl⟩:=q1;obtain⟨c2,z2,rfl⟩:=q2;rw[z1]at z2;cases z2;have:G=[]:=ATo (ANe q3);subst this;simp[Ow]
  have hF:(List.replicate s.length ([]:ABJ)).flatten=[]:=by simp
  rw[hF]at how;obtain⟨r1,r2,r3⟩:=TO h (HE.refl h.bx) (w':=Lib.bytesWorld w el S0) (d:=9) (by omega) how (by simp) (by simp) (by simp[Lib.bytesWorld_size]) (fun c hc _=>Lib.bytesWorld_at_old w el S0 c hc)
   ⟨by simp[Lib.bytesWorld,World.freeze]<;>rfl,by simp[Lib.bytesWorld,World.freeze]<;>rfl,by simp[Lib.bytesWorld,World.freeze]<;>rfl,by rw[Lib.bytesWorld_size];omega⟩
  refine⟨_,_,_,_,_,.inl ?_,r1,r3,r2.any,rfl,e⟩;simp only[execOp,ho,YQ,Sem.run_bind];have e5:=lM;simp only[S0]at e5;rw[e5];simp only[Result.andThen_ok,Sem.run_pure,AXX];rfl
 ·rename_i el z hs hd hv
  have h1:=Iy hT hs;have h2:=Iy hT hd;rw[hv]at hx;split at e
  case h_2=>cases e
  rename_i l UR hl;have h3:=Iy hT UR;simp only[gJ]at h1 h2 h3;obtain⟨Fs,hB,hS⟩:=h.bx;have ZG:=Ug (FM.refl σ.bx) hB hS.st hx hl;have hr:=qH (P:=P) h1 h3 h2 ZG;refine LH.same h (v:= .string ⟨(l.map fun n:Int=>UInt8.ofNat n.toNat).toArray⟩) (x:= .c (.v .str (l.map fun n:Int=>UInt8.ofNat n.toNat))) ?_ (VR.str (E:=E) (vw:=σ.bx) _) e
  simp only[execOp,ho,Sem.run_bind,hr,Result.andThen_ok,Sem.run_pure]
 ·cases e
end
end Go.Fw
end
section
namespace Go.Fw
theorem cL:∀(l:List Value) (o:Nat) (arr:Array Value) (p q:List Value),p.length=o→(∃m:List Value,m.length=l.length∧arr.toList=p++m++q)→(FJ arr o l).toList=p++l++q
 |[],o,arr,p,q,hp,⟨m,hm,h⟩=>by
  grind[List.eq_nil_of_length_eq_zero,FJ]
 |c::l,o,arr,p,q,hp,⟨m,hm,h⟩=>by
  cases m with
  |nil=>simp_all
  |cons b m=>
   simp only[FJ];have:=cL l (o+1) (arr.setIfInBounds o c) (p++[c]) q (by simp[hp]) ⟨m,by simp_all,by
    simp_all⟩
   simp_all
theorem HE.more{E E1 E2:Env}{w:World}{vw bx jq aU:List Bx}{G F1 F2 A W:ABJ}(k1:HE E w vw bx G E1 jq F1)(k2:HE E1 w vw jq (F1++G) E2 aU F2)(hp:F1.Perm (A++W)):
  let E3:Env:={ E2 with S:=fun c=>E2.S c∨c∈W,T:=fun c=>E2.T c∨c∈W }
  HE E w vw bx G E3 aU (A++F2):=by
 intro E3;have hB:=k2.boxes.perm (G':=(F2++A)++W++G) (by
  grind)
 obtain⟨hle,Xr⟩:=hB.share;exact⟨(k1.le.trans k2.le).trans hle,k2.len.trans k1.len,fun b B hb=>(k2.within b B hb).elim .inl (k1.within b B),Xr.perm (AUI _ List.perm_append_comm)⟩
theorem ZT{w:World}{vw:List Bx}{r:Ty}(hg:r.ta=true):∀{n i:Nat} {parts:List (Nat×XV)} {vals:List (Nat×Value)} {E:Env} {bx:List Bx} {G:ABJ} {d:Nat} {rows:List r.D} {QQ:List Bx} {d':Nat},
  DD E w vw bx G→FM bx vw→1≤d→zk E w vw parts vals→Yv r i n parts bx d=some (rows,QQ,d')→1≤d'∧d'≤d∧rows.length=n∧ ∃(E':Env) (Fs:List ABJ) (css:List (List Value)),
   HE E w vw bx G E' QQ Fs.flatten∧css.length=n∧Fs.length=n∧(∀(k:Nat) cs y G,css[k]? =some cs→rows[k]? =some y→Fs[k]? =some G→Ow w E'.S (d'-1) r cs y G)∧
   ∀(pre:List (List Value)) (arr:Array Value),pre.length=i→(∀c∈pre,c.length=r.n)→arr.toList=pre.flatten++(List.replicate n (Et r)).flatten→
    ∃KG,Instr.fill (fun i=>some (i*r.n,r.n)) arr vals=some KG∧KG.toList=pre.flatten++css.flatten
 |0,i,[],[],E,bx,G,d,rows,QQ,d',h,hw,hd,hp,e=>by
  simp only[Yv,ALt,APo]at e;obtain⟨rfl,rfl,rfl⟩:=e;refine⟨hd,AQE _,rfl,E,[],[],HE.refl h,rfl,rfl,by simp,fun pre arr _ _ ha=>⟨arr,rfl,by simp_all⟩⟩
 |n+1,i,(j,x)::l,(j',v)::m,E,bx,G,d,rows,QQ,d',h,hw,hd,hp,e=>by
  obtain⟨⟨hj,hx⟩,hp⟩:=hp;simp only at hj hx;subst hj;simp only[Yv]at e;split at e
  case isFalse=>cases e
  rename_i zU;subst zU;simp only[AMR,AL9,APo]at e;obtain⟨⟨y1,jq,d1⟩,e1,⟨y2,aU,d2⟩,e2,rfl,rfl,rfl⟩:=e;dsimp only at e2⊢;obtain⟨a1,a2,E1,F1,k1,o1⟩:=wY h hw hd hx e1;have w4:=k1.le.keep (w:=w) (vw:=vw) h.st;obtain⟨b1,b2,b3,E2,Fs,css,k2,c1,c2,c3,c4⟩:=ZT hg (G:=F1++G) k1.boxes (hw.qY k1) a1 (hp.imp fun _ _ q=>⟨q.1,PK w4 q.2⟩) e2;obtain⟨A,W,ql,o1'⟩:=J9 (d:=d'-1) (by omega) o1;refine⟨b1,AQ4 b2 a2,by simp[b3],_,A::Fs,v.cells.toList::css,HE.more k1 k2 ql,by simp[c1],by simp[c2],fun k cs y G' q1 q2 q3=> ?_,fun pre arr lR hpn ha=> ?_⟩
  ·cases k with
   |zero=>
    simp at q1 q2 q3;subst q1 q2 q3;refine Eb (S:=fun b=>E1.S b∨b∈W) ?_ (fun _ _=>rfl) (fun _ _=>rfl) o1'
    intro c hc;exact hc.elim (fun h=> .inl (k2.le.S c h)) .inr
   |succ k=>
    refine Eb (S:=E2.S) ?_ (fun _ _=>rfl) (fun _ _=>rfl) (c3 k cs y G' (by simp_all) (by simp_all) (by simp_all))
    simp_all
  ·have hlen:v.cells.toList.length=r.n:=Xo o1
   have hpf:pre.flatten.length=i*r.n:=by
    clear ha c4
    subst lR;clear e1 e2
    induction pre with
    |nil=>simp
    |cons c pre ih=>grind
   have W8:(FJ arr (i*r.n) v.cells.toList).toList=pre.flatten++v.cells.toList++(List.replicate n (Et r)).flatten:=
    cL _ _ _ _ _ hpf ⟨Et r,by rw[Gw,hlen],by grind⟩
   obtain⟨KG,f1,f2⟩:=c4 (pre++[v.cells.toList]) (FJ arr (i*r.n) v.cells.toList) (by simp[lR]) (by
    grind) (by simp_all)
   refine⟨KG,?_,by simp_all⟩;rw[sg (i:=i) (off:=i*r.n) (size:=r.n) rfl (by omega) ?_]
   all_goals grind[List.length_append,HD,Gw,Nat.succ_mul]
 |n+1,i,[],[],E,bx,G,d,rows,QQ,d',h,hw,hd,hp,e=>by
  simp only[Yv,AL9,APo]at e;obtain⟨⟨y2,aU,d2⟩,e2,rfl,rfl,rfl⟩:=e;obtain⟨b1,b2,b3,E2,Fs,css,k2,c1,c2,c3,c4⟩:=ZT hg (G:=G) h hw hd (parts:=[]) (vals:=[]) trivial e2;refine⟨b1,b2,by simp[b3],E2,[]::Fs,Et r::css,by simp_all,by simp[c1],by simp[c2],fun k cs y G' q1 q2 q3=> ?_,fun pre arr lR hpn ha=> ?_⟩
  ·grind[eD]
  ·obtain⟨KG,f1,f2⟩:=c4 (pre++[Et r]) arr (by simp[lR]) (by
    grind[Gw]) (by grind)
   simp_all
 |0,_,_::_,_,_,_,_,_,_,_,_,_,_,_,_,e=>by simp[Yv]at e
 |0,_,[],_::_,_,_,_,_,_,_,_,_,_,_,hp,_=>hp.elim
 |_+1,_,[],_::_,_,_,_,_,_,_,_,_,_,_,hp,_=>hp.elim
 |_+1,_,_::_,[],_,_,_,_,_,_,_,_,_,_,hp,_=>hp.elim
section
variable{Y:Type} {P:Program} {T:Jp} (hT:Em P T) {o:Oper} {E:Env} {σ:St} {a:Act} {w:World} {k:K Y} {y:Y}
include hT
theorem mX(h:Rel E σ a w){t n:Nat}{ps:Array (Nat×Operand)}(ho:o.op= .buildSlice t n ps)(e:Q0 T t n (ps.toList.map fun q=>(q.1,σ.ev q.2)) σ k=some y):LH P o E σ a w k y:=by
 unfold Q0 at e;split at e
 case h_2=>cases e
 rename_i el hd;split at e
 case h_2=>cases e
 rename_i r hr;split at e
 case isFalse=>cases e
 rename_i hc;simp only[AMC,AMi]at hc;obtain⟨⟨UR,hn⟩,hrn⟩:=hc;simp only[AMR]at e;obtain⟨⟨rows,QQ,d'⟩,e1,e⟩:=e;dsimp only at e;obtain⟨el',ti,hu,Uv,hs,hby,hrow⟩:=KX hT UR;obtain⟨i,z,i1,i2,i3,i4,i5,hg⟩:=WU hT Uv hrow;have ASu:=pB h ps;obtain⟨b1,b2,b3,E',Fs,css,k2,c1,c2,c3,c4⟩:=ZT hg h.bx (FM.refl _) (by omega) ASu e1
 let zero:Array Value:=if n*r.n=0 then #[]else z.cells
 have hz:((Array.range (n*r.n)).map (fun j=>zero[j%zero.size]!)).toList=(List.replicate n (Et r)).flatten:=by
  by_cases h0:n*r.n=0
  ·have h1:(List.replicate n (Et r)).flatten=[]:=by
    rw[←AXY,HD,Gw,h0]
   rw[h1];simp[h0]
  ·have bd:Et r≠[]:=by
    intro he;have:=Gw r;rw[he]at this;simp at this;rw[←this]at h0;simp at h0
   have:=V5 i5 n bd;rw[Gw]at this;simp only[zero,ALo h0];exact this
 obtain⟨KG,f1,f2⟩:=c4 [] _ rfl (by simp) (by rw[hz];simp);simp only[AVv,ATL]at f2
 let w':=w.alloc (.cells KG el')
 have new:w'.heap[w.heap.size]? =some (.cells KG el'):=by
  show(w.heap.push (.cells KG el'))[w.heap.size]? =_
  simp
 obtain⟨d,rfl⟩:∃m,d' =m+1:=⟨d'-1,by omega⟩;have hl:∀c∈css,c.length=r.n:=by
  intro c hc;obtain⟨j,hj,rfl⟩:=AQQ hc;exact Xo (c3 j _ _ _ (ALR hj) (ALR (by omega)) (ALR (by omega)))
 have xw:css.flatten.length=n*r.n:=by
  rw[←c1];clear f2 c3 c4 c1
  induction css with
  |nil=>simp
  |cons c l ih=>simp[hl c (by simp),ih (fun c hc=>hl c (by simp[hc])),Nat.succ_mul];omega
 have AMz:KG.size=n*r.n:=by rw[←AVV,f2,xw]
 obtain⟨Fs0,hB1,Xr⟩:=k2.boxes;simp only[AM3]at Xr;have how:Ow w' E'.S (d+1) (.sl r) [.slice (some ⟨w.heap.size,0,none⟩) rows.length n] rows (w.heap.size::Fs.flatten):=by
  refine dQ (css:=css) (ex:=[]) new (by simpa using f2) (by omega) (by omega) (by omega) (WQ _) (by omega) fun k cs y G q1 q2 q3=> ?_
  have PY:∀c∈G,c∈Fs.flatten:=fun c hc=>ASW.2 ⟨G,ANe q3,hc⟩
  exact Eb (fun _ h=>h) (fun c hc=>Iz (Xr.cf c (Xr.st c hc))) (fun c hc=>Iz (Xr.lt c (by simp only[AOl];exact .inr (PY c hc)))) (by simpa using c3 k cs y G q1 q2 q3)
 rw[b3]at how;obtain⟨r1,r2,r3⟩:=TO h k2 (w':=w') (d:=d+1) (by omega) how (by
   intro c hc;rcases AOJ.1 hc with rfl|hc
   ·exact .inr (AQE _)
   ·exact .inl hc) (by
   refine AWf.2 ⟨fun hc=> ?_,(AM6.1 Xr.nodup).2.1⟩;have:=Xr.lt w.heap.size (by simp only[AOl];exact .inr hc);omega) (by
   intro c hc;rcases AOJ.1 hc with rfl|hc
   ·simp[w']
   ·have:=Xr.lt c (by simp only[AOl];exact .inr hc)
    simp[w'];omega) (fun c hc _=>Iz hc) ⟨rfl,rfl,rfl,by simp[w']⟩
 refine⟨_,_,_,_,_,.inl ?_,r1,r3,r2.any,rfl,e⟩;have Xx: ¬(n*r.n>2^24):=by
  have:n*r.n≤1024*1024:=AXt hn hrn;omega
 simp only[execOp,ho,Instr.buildSlice,Sem.run_bind,Ba hu,Result.andThen_ok,sizeOf,typeInfo,run_program,i1,Sem.run_pure,i2,hs,Xx,AON];by_cases h0:n*r.n=0
 ·have hz0:zero= #[]:=by simp only[zero,ALP h0]
  rw[hz0]at f1;simp only[h0,ATK,Sem.run_bind,Sem.run_pure,Result.andThen_ok];rw[h0]at f1;simp only[f1,newRow,Sem.run_bind,run_newObj,Result.andThen_ok,Sem.run_pure];rfl
 ·have hz0:zero=z.cells:=by simp only[zero,ALo h0]
  rw[hz0]at f1;simp only[h0,AON,Sem.run_bind,zeroValue,typeInfo,run_program,Result.andThen_ok,i1,Sem.run_pure,i4];simp only[f1,newRow,Sem.run_bind,run_newObj,Result.andThen_ok,Sem.run_pure];rfl
end
end Go.Fw
end
section
namespace Go.Fw
theorem bQ(w:World)(b o:Nat)(v:Value):(w.setCell ⟨b,o,none⟩ v).heap=w.heap.modify b fun
 | .cells c elem frozen=> .cells (c.setIfInBounds o v) elem frozen
 |o=>o:=rfl
theorem Fj:∀(vs:List Value) (o:Nat) (w:World) (b:Nat) (arr:Array Value) (ty:TypeId) (fr:ADE),w.heap[b]? =some (.cells arr ty fr)→
  (w.setCells b o vs).heap[b]? =some (.cells (FJ arr o vs) ty fr)
 |[],_,_,_,_,_,_,h=>h
 |v::l,o,w,b,arr,ty,fr,h=>by
  simp only[World.setCells,FJ];refine Fj l (o+1) _ b _ ty fr ?_
  rw[bQ,Array.getElem?_modify,ALP rfl,h];rfl
theorem Dc:∀(vs:List Value) (o:Nat) (w:World) (b:Nat),(w.setCells b o vs).heap.size=w.heap.size
 |[],_,_,_=>rfl
 |v::l,o,w,b=>by
  simp only[World.setCells];rw[Dc l,bQ,Array.size_modify]
theorem DP:∀(vs:List Value) (o:Nat) (w:World) (b c:Nat),c≠b→(w.setCells b o vs).heap[c]? =w.heap[c]?
 |[],_,_,_,_,_=>rfl
 |v::l,o,w,b,c,h=>by
  simp only[World.setCells];rw[DP l _ _ _ _ h,bQ,Array.getElem?_modify,ALo (fun e=>h e.symm)]
theorem CC:∀(vs:List Value) (o:Nat) (w:World) (b:Nat),Grown w (w.setCells b o vs)
 |[],_,_,_=>⟨rfl,rfl,rfl,AQE _⟩
 |v::l,o,w,b=>by
  have:=CC l (o+1) (w.setCell ⟨b,o,none⟩ v) b;refine⟨this.os,this.tape,this.output,?_⟩;rw[Dc];omega
theorem Vp{arr:Array Value}:∀{l:List Value} {o j:Nat},o+l.length≤arr.size→(FJ arr o l)[j]? =if o≤j∧j<o+l.length then l[j-o]? else arr[j]?:=by
 intro l
 induction l generalizing arr with
 |nil=>intro o j _;rw[ALo (fun hh=>by grind)];rfl
 |cons c l ih=>
  intro o j h;simp only[ANL]at h;simp only[FJ];grind
theorem Kl{w:World}{b o:Nat}{arr:Array Value}{ty:TypeId}{fr:ADE}(h:w.heap[b]? =some (.cells arr ty fr)):w.cell? ⟨b,o,none⟩=arr[o]?:=by
 simp[World.cell?,h]
theorem Ny{w:World}{b o:Nat}{vs:List Value}{arr:Array Value}{ty:TypeId}{fr:ADE}(h:w.heap[b]? =some (.cells arr ty fr))(hs:o+vs.length≤arr.size):Bc (w.setCells b o vs) b o vs:=by
 intro j v hj;have hl:=(AMG.1 hj).1;rw[Kl (Fj vs o w b arr ty fr h),Vp hs,ALP (by omega),show o+j-o=j by omega,hj]
theorem UA{w:World}{b b' o o':Nat}{vs cs:List Value}{arr:Array Value}{ty:TypeId}{fr:ADE}(hc:Bc w b' o' cs)(h:w.heap[b]? =some (.cells arr ty fr))(hs:o+vs.length≤arr.size)
  (ha:b'≠b∨o'+cs.length≤o∨o+vs.length≤o'):Bc (w.setCells b o vs) b' o' cs:=by
 intro j v hj;have hl:=(AMG.1 hj).1;by_cases hb:b' =b
 ·subst hb
  have:=hc j v hj;rw[Kl h]at this;rw[Kl (Fj vs o w b' arr ty fr h),Vp hs,ALo (by omega),this]
 ·rw[World.cell?_of_block (a:=⟨b',o'+j,none⟩) (DP vs o w b b' hb)]
  exact hc j v hj
theorem Uc{w:World}{b o n k:Nat}{arr:Array Value}{ty:TypeId}{fr:ADE}(h:w.heap[b]? =some (.cells arr ty fr))(hs:o+n≤arr.size)(hu:xM fr (arr.size+k)):w.there b o n:=by
 intro j hj;refine⟨?_,?_⟩
 ·rw[Kl h]
  grind
 ·have:=hu (o+j) (by omega)
  grind[World.frozen?]
theorem ka{w:World}{S:Nat→Prop}:∀{r:Ty} {d:Nat} {cs:List Value} {y:r.D} {F:ABJ},Ow w S d r cs y F→ ∀v∈cs,v.oneCell' =true
 | .int _,_,_,_,_,h,v,hv=>by simp only[Ow]at h;rw[h.1]at hv;simp at hv;subst hv;rfl
 | .bool,_,_,_,_,h,v,hv=>by simp only[Ow]at h;rw[h.1]at hv;simp at hv;subst hv;rfl
 | .str,_,_,_,_,h,v,hv=>by simp only[Ow]at h;rw[h.1]at hv;simp at hv;subst hv;rfl
 | .unit,_,_,_,_,h,v,hv=>by grind[Ow]
 | .sl _,0,_,_,_,h,v,hv=>by
  simp only[Ow,Rd]at h;obtain⟨⟨_,_,rfl,_⟩,_⟩:=h;simp at hv;subst hv;rfl
 | .sl _,_+1,_,_,_,h,v,hv=>by
  simp only[Ow]at h;obtain⟨_,_,rfl,_⟩:=h;simp at hv;subst hv;rfl
 | .cons _ _,_,_,_,_,h,v,hv=>by
  simp only[Ow]at h;obtain⟨u,l,F1,F2,rfl,_,h1,h2⟩:=h;rcases AOJ.1 hv with rfl|hv
  ·exact ka h1 _ (by simp)
  ·exact ka h2 _ hv
section
variable{P:Program} {w:World}
structure ju (P:Program) (w:World) (size n:Nat) (x:Value) (news:List Value):Prop where
 len:∀w',(Builtin.lenOf x).run P w' = .ok n w'
 cells:∀w',w'.heap=w.heap→(Builtin.firstCells size n x).run P w' = .ok news.toArray w'
theorem fE{ts:Array TypeId}{t u ty e:TypeId}(vW:ts[0]? =some t)(wi:ts[1]? =some u){i:TypeInfo}{size:Nat}(ht:P.underlying t=some (.slice e))(hu:(∃e,P.underlying u=some (.slice e))∨P.underlying u=some .string)(hi:P.info? e=some i)(PN:i.size=size)
  {b o Uz i6 n:Nat} {x:Value} {news:List Value} (hn:ju P w size n x news) (S_:Uz+n≤i6) (oZ:w.there b (o+Uz*size) news.length) (h1:∀v∈news,v.oneCell' =true):
  (Builtin.append_ ts ty #[.slice (some ⟨b,o,none⟩) Uz i6,x]).run P w= .ok (.slice (some ⟨b,o,none⟩) (Uz+n) i6) (w.setCells b (o+Uz*size) news):=by
 subst PN;have fO:=run_storeCells_cells (P:=P) b (o+Uz*i.size) news 0 w (fun j hj=>by simpa using(oZ j hj).1) (fun j hj=>by simpa using(oZ j hj).2) h1;simp only[ATu]at fO;have hl:=hn.len w;have hf:=hn.cells w rfl;rcases hu with⟨e',hu⟩|hu
 ·simp[Builtin.append_,vW,wi,run_underlying ht,run_underlying hu,sizeOf,typeInfo,hi,hl,S_,hf,Addr.add_eq,fO]
 ·simp[Builtin.append_,vW,wi,run_underlying ht,run_underlying hu,sizeOf,typeInfo,hi,hl,S_,hf,Addr.add_eq,fO]
theorem nF{ts:Array TypeId}{t u ty e:TypeId}(vW:ts[0]? =some t)(wi:ts[1]? =some u){i:TypeInfo}{size:Nat}(ht:P.underlying t=some (.slice e))(hu:(∃e,P.underlying u=some (.slice e))∨P.underlying u=some .string)(hi:P.info? e=some i)(PN:i.size=size)
  {a:Option Addr} {x:Value} (hn:ju P w size 0 x []):
  (Builtin.append_ ts ty #[.slice a 0 0,x]).run P w= .ok (.slice a 0 0) w:=by
 subst PN;have hl:=hn.len w;have hf:=hn.cells w rfl;cases a with
 |none=>
  rcases hu with⟨e',hu⟩|hu
  ·simp[Builtin.append_,vW,wi,run_underlying ht,run_underlying hu,sizeOf,typeInfo,hi,hl,hf]
  ·simp[Builtin.append_,vW,wi,run_underlying ht,run_underlying hu,sizeOf,typeInfo,hi,hl,hf]
 |some a=>
  have fO:(storeCells (a.add (0*i.size)) [] 0).run P w= .ok () w:=rfl;rcases hu with⟨e',hu⟩|hu
  ·simp[Builtin.append_,vW,wi,run_underlying ht,run_underlying hu,sizeOf,typeInfo,hi,hl,hf,storeCells]
  ·simp[Builtin.append_,vW,wi,run_underlying ht,run_underlying hu,sizeOf,typeInfo,hi,hl,hf,storeCells]
theorem bo{ts:Array TypeId}{t u ty e:TypeId}(vW:ts[0]? =some t)(wi:ts[1]? =some u){i:TypeInfo}{z:Value}{size:Nat}(ht:P.underlying t=some (.slice e))(hu:(∃e,P.underlying u=some (.slice e))∨P.underlying u=some .string)(hi:P.info? e=some i)(hz:i.zero=some z)(PN:i.size=size)
  {a:Option Addr} {Uz i6 n:Nat} {x:Value} {AU4 news:List Value} (ho:∀w',w'.heap=w.heap→(Builtin.firstCells size Uz (.slice a Uz i6)).run P w' = .ok AU4.toArray w')
  (hn:ju P w size n x news) (AWJ:i6<Uz+n) (h63:Uz+n≤Dw) (hby:i.bytes≤512):
  (Builtin.append_ ts ty #[.slice a Uz i6,x]).run P w= .ok (.slice (some ⟨w.heap.size,0,none⟩) (Uz+n) (grownCap w (Uz+n) i6 e))
   (w.drew.alloc (.cells (AU4.toArray++news.toArray++Builtin.zeroCells z.cells (grownCap w (Uz+n) i6 e-(Uz+n))) e)):=by
 subst PN;have hl:=hn.len w;have hf:=hn.cells w.drew rfl;have hfo:=ho w.drew rfl;have hno: ¬(Uz+n≤i6):=by omega
 have hb:(Uz+n)*i.bytes≤140737488355328:=by
  have:(Uz+n)*i.bytes≤Dw*512:=AXt h63 hby;grind[Dw]
 have h48:=growslice_fits AWJ hb;have AVf: ¬(281474976710656<Builtin.nextslicecap (Uz+n) i6*i.bytes):=by omega
 have AU5: ¬(9223372036854775807<((Uz:Int)+(n:Int))):=by grind[Dw]
 rcases hu with⟨e',hu⟩|hu
 ·simp[Builtin.append_,vW,wi,run_underlying ht,run_underlying hu,sizeOf,typeInfo,zeroValue,hi,hz,hl,hno,AU5,AVf,Question.forced,hf,hfo,newRow,grownCap]
  grind
 ·simp[Builtin.append_,vW,wi,run_underlying ht,run_underlying hu,sizeOf,typeInfo,zeroValue,hi,hz,hl,hno,AU5,AVf,Question.forced,hf,hfo,newRow,grownCap]
  grind
end
end Go.Fw
end
section
namespace Go.Fw
def FL(w:World)(S:Nat→Prop)(d:Nat)(r:Ty)(css:List (List Value))(rows:List r.D)(Fs:List ABJ):Prop:=
 css.length=rows.length∧Fs.length=rows.length∧(∀c∈css,c.length=r.n)∧ ∀(i:Nat) cs y G,css[i]? =some cs→rows[i]? =some y→Fs[i]? =some G→Ow w S d r cs y G
theorem FL.mono{w w':World}{S S':Nat→Prop}{d:Nat}{r:Ty}{css:List (List Value)}{rows:List r.D}{Fs:List ABJ}(h:FL w S d r css rows Fs)(hS:∀c,S c→S' c)(hw:∀c,S c→w'.heap[c]? =w.heap[c]?)
  (hF:∀c∈Fs.flatten,w'.heap[c]? =w.heap[c]?):FL w' S' d r css rows Fs:=
 ⟨h.1,h.2.1,h.2.2.1,fun i cs y G a b c=>Eb hS hw (fun x hx=>hF x (ASW.2 ⟨G,ANe c,hx⟩)) (h.2.2.2 i cs y G a b c)⟩
theorem FL.append{w:World}{S:Nat→Prop}{d:Nat}{r:Ty}{css AW_:List (List Value)}{rows C1:List r.D}{Fs Fs':List ABJ}(h:FL w S d r css rows Fs)(k:FL w S d r AW_ C1 Fs'):
  FL w S d r (css++AW_) (rows++C1) (Fs++Fs'):=by
 refine⟨by simp[h.1,k.1],by simp[h.2.1,k.2.1],fun c hc=>(AOl.1 hc).elim (h.2.2.1 c) (k.2.2.1 c),fun i cs y G a b c=> ?_⟩;by_cases hi:i<rows.length
 ·rw[AND (by rw[h.1];omega)]at a
  rw[AND hi]at b;rw[AND (by rw[h.2.1];omega)]at c;exact h.2.2.2 i cs y G a b c
 ·rw[ANg (by rw[h.1];omega)]at a
  rw[ANg (by omega)]at b;rw[ANg (by rw[h.2.1];omega)]at c;rw[h.1]at a;rw[h.2.1]at c;exact k.2.2.2 _ cs y G a b c
theorem FL.weaken{w:World}{S:Nat→Prop}{d d':Nat}{r:Ty}{css:List (List Value)}{rows:List r.D}{Fs:List ABJ}(h:FL w S d r css rows Fs)(hd:d'≤d):
  ∃(Gs:List ABJ) (W:ABJ),Fs.flatten.Perm (Gs.flatten++W)∧FL w (fun c=>S c∨c∈W) d' r css rows Gs:=by
 obtain⟨Gs,Ws,h1,h2,h3,h4⟩:=pn (R:=fun i G F W=> ∀cs y,css[i]? =some cs→rows[i]? =some y→Ow w (fun c=>S c∨c∈W) d' r cs y F) Fs 0 (fun i G hG=>by
  rw[ATf];have hi:=(AMG.1 hG).1;have h1:=h.1;have h2:=h.2.1;obtain⟨F,W,hp,ho⟩:=J9 hd (h.2.2.2 i _ _ G (ALR (by omega)) (ALR (by omega)) hG);grind)
 refine⟨Gs,Ws.flatten,h3,h.1,h1.trans h.2.1,h.2.2.1,fun i cs y G a b c=> ?_⟩;have hi:=(AMG.1 c).1;have hw:Ws[i]? =some (Ws[i]'(by omega)):=ALR _;have hf:Fs[i]? =some (Fs[i]'(by omega)):=ALR _;have:=h4 i _ _ _ hf c hw cs y (by simp_all) (by simp_all);exact Eb (fun x hx=>hx.imp id fun hx=>ASW.2 ⟨_,ANe hw,hx⟩) (fun _ _=>rfl) (fun _ _=>rfl) this
theorem Hl{n:Nat}:∀{css:List (List Value)},(∀c∈css,c.length=n)→css.flatten.length=css.length*n
 |[],_=>by simp
 |c::l,h=>by simp[h c (by simp),Hl (css:=l) (fun c hc=>h c (by simp[hc])),Nat.succ_mul];omega
theorem FL.one{w:World}{S:Nat→Prop}{d:Nat}{r:Ty}{css:List (List Value)}{rows:List r.D}{Fs:List ABJ}(h:FL w S d r css rows Fs):∀v∈css.flatten,v.oneCell' =true:=by
 intro v hv;obtain⟨c,hc,hv⟩:=ASW.1 hv;obtain⟨i,hi,rfl⟩:=AQQ hc;have h1:=h.1;have h2:=h.2.1;exact ka (h.2.2.2 i _ _ _ (ALR hi) (ALR (by omega)) (ALR (by omega))) v hv
theorem FL.flat{w:World}{B S:Nat→Prop}{d:Nat}{r:Ty}(hf:r.flat=true){css:List (List Value)}{rows:List r.D}(h1:css.length=rows.length)(h2:∀c∈css,c.length=r.n)
  (h3:∀(i:Nat) cs y,css[i]? =some cs→rows[i]? =some y→Rd w B r cs y):FL w S d r css rows (List.replicate rows.length []):=by
 refine⟨h1,by simp,h2,fun i cs y G a b c=> ?_⟩;grind[List.mem_of_getElem?,iJ]
theorem Bc.heap{w w':World}{b o:Nat}{cs:List Value}(h:Bc w b o cs)(e:w'.heap=w.heap):Bc w' b o cs:=h.of_block (by rw[e])
theorem Qi{P:Program}{w:World}{a:Option Addr}{n cap size:Nat}{css:List (List Value)}(hl:css.length=n)(hc:∀c∈css,c.length=size)
  (h:n=0∨ ∃b o,a=some ⟨b,o,none⟩∧Bc w b o css.flatten):ju P w size n (.slice a n cap) css.flatten:=by
 refine⟨fun w' =>rfl,fun w' e=> ?_⟩;have hlen:css.flatten.length=n*size:=by rw[Hl hc,hl]
 rcases h with rfl|⟨b,o,rfl,h⟩
 ·have:css=[]:=APu hl
  subst this;cases a with
  |none=>rfl
  |some a=>
   simp only[Builtin.firstCells,Nat.zero_mul,AVv];rfl
 ·simp only[Builtin.firstCells]
  rw[←hlen];exact Lf (h.heap e)
theorem AFj{P:Program}{w:World}{s:ACD}:ju P w 1 s.length (.string ⟨s.toArray⟩) (s.map fun c=>[Value.int .u8 (c.toNat:Int)]).flatten:=by
 refine⟨fun w' =>rfl,fun w' _=> ?_⟩;have PN:(⟨s.toArray⟩:ByteArray).size=s.length:=by rfl
 have e1:(⟨s.toArray⟩:ByteArray).extract 0 s.length=⟨s.toArray⟩:=by
  rw[←PN];apply ByteArray.ext;simp
 simp only[Builtin.firstCells,e1,Sem.run_pure];have:(s.map fun c=>[Value.int .u8 (c.toNat:Int)]).flatten=s.map fun c=>Value.int .u8 (c.toNat:Int):=by
  have:=Wn (l:=s.map fun c=>Value.int .u8 (c.toNat:Int));grind[List.map_map,Function.comp_def]
 simp_all
theorem nc{w:World}{S:Nat→Prop}{d:Nat}{r:Ty}{v:Value}{rows:List r.D}{F:ABJ}(h:Ow w S (d+1) (.sl r) [v] rows F):
  ∃a cap css Fs R,v= .slice a rows.length cap∧rows.length≤cap∧FL w S d r css rows Fs∧F.Perm (Fs.flatten++R)∧
   ((cap=0∧F=[])∨ ∃b o arr ty fr,a=some ⟨b,o,none⟩∧w.heap[b]? =some (.cells arr ty fr)∧o+cap*r.n≤arr.size∧xM fr (arr.size+mk r)∧F=b::Fs.flatten∧Bc w b o css.flatten):=by
 simp only[Ow]at h;obtain⟨a,cap,e,hle,h⟩:=h;simp only[AQY,ATS]at e;subst e;rcases h with⟨h,rfl⟩|⟨b,o,arr,ty,fr,Fs,rfl,hb,PN,hu,rfl,hFl,hr⟩
 ·have:rows=[]:=APu (by omega)
  subst this;exact⟨a,cap,[],[],[],rfl,hle,⟨rfl,rfl,by simp,fun i cs y G h=>by simp at h⟩,by simp,.inl ⟨h,rfl⟩⟩
 ·
  have key:∀(n o:Nat) (ys:List r.D) (Fs:List ABJ),ys.length=n→Fs.length=n→(∀(i:Nat) (y:r.D) (G:ABJ),ys[i]? =some y→Fs[i]? =some G→ ∃cs,cs.length=r.n∧Bc w b (o+i*r.n) cs∧Ow w S d r cs y G)→
    ∃css,FL w S d r css ys Fs∧Bc w b o css.flatten:=by
   intro n
   induction n with
   |zero=>
    intro o ys Fs h1 h2 _;obtain rfl:=APu h1;obtain rfl:=APu h2;exact⟨[],⟨rfl,rfl,by simp,fun i cs y G h=>by simp at h⟩,fun _ _ h=>by simp at h⟩
   |succ n ih=>
    intro o ys Fs h1 h2 hh;obtain⟨y,ys,rfl⟩:=AW6 h1;obtain⟨G,Fs,rfl⟩:=AW6 h2;obtain⟨cs,c1,c2,c3⟩:=hh 0 y G rfl rfl;obtain⟨css,d1,d2⟩:=ih (o+r.n) ys Fs (by simp_all) (by simp_all) (fun i z G hz hG=>by
     obtain⟨cs,e1,e2,e3⟩:=hh (i+1) z G (by simp_all) (by simp_all);grind)
    refine⟨cs::css,⟨by simp[d1.1],by omega,fun c hc=> ?_,fun i dx y' G' a b c=> ?_⟩,?_⟩
    ·rcases AOJ.1 hc with rfl|hc
     ·omega
     ·exact d1.2.2.1 c hc
    ·cases i with
     |zero=>simp_all
     |succ i=>exact d1.2.2.2 i dx y' G' (by simp_all) (by simp_all) (by simp_all)
    grind[List.flatten_cons,Bc.append]
  obtain⟨css,k1,k2⟩:=key rows.length o rows Fs rfl hFl hr;refine⟨_,cap,css,Fs,[b],rfl,hle,k1,?_,.inr ⟨b,o,arr,ty,fr,rfl,hb,PN,hu,rfl,k2⟩⟩;grind
theorem lE{w:World}{S:Nat→Prop}:∀{r:Ty} {cs:List Value} {x:r.D},Rd w S r cs x→Ow w S 0 r cs x []
 | .cons c r,cs,x,hr=>by
  simp only[Rd]at hr;obtain⟨v,l,rfl,h1,h2⟩:=hr;simp only[Ow];exact⟨v,l,[],[],rfl,rfl,lE h1,lE h2⟩
 | .unit,_,_,hr=>by grind[Rd,Ow]
 | .int k,_,_,hr=>by grind[Rd,Ow]
 | .bool,_,_,hr=>by grind[Rd,Ow]
 | .str,_,_,hr=>by grind[Rd,Ow]
 | .sl q,_,_,hr=>by simp only[Ow];simp_all
theorem fS{P:Program}{E:Env}{w:World}{vw bx:List Bx}{G:ABJ}(h:DD E w vw bx G)(hw:FM bx vw){x:AV}{v:Value}(hv:VR E w vw x v){r:Ty}{rows:List r.D}{QQ:List Bx}{d:Nat}
  (e:nf bx x=some ⟨r,rows,QQ,d⟩):1≤d∧ ∃E' F css Fs R,HE E w vw bx G E' QQ F∧F.Perm (List.flatten Fs++R)∧FL w E'.S (d-1) r css rows Fs∧ju P w r.n rows.length v css.flatten:=by
 have plain:∀{B:Nat→Prop} {ys:List r.D},r.flat=true→Rd w B (.sl r) [v] ys→ ∀S:Nat→Prop,∃css,FL w S 8 r css ys (List.replicate ys.length [])∧ju P w r.n ys.length v css.flatten:=by
  intro B ys hf hr S;simp only[Rd]at hr;obtain⟨a,cap,e1,hle,hr⟩:=hr;simp only[AQY,ATS]at e1;subst e1;rcases hr with hr|⟨b,o,rfl,_,hr⟩
  ·have:ys=[]:=APu hr
   subst this;exact⟨[],⟨rfl,rfl,by simp,fun i cs y G h=>by simp at h⟩,Qi (css:=[]) rfl (by simp) (.inl rfl)⟩
  ·obtain⟨css,c1,c2,c3,c4⟩:=o8 hr
   exact⟨css,FL.flat hf c1 c2 c4,Qi c1 c2 (.inr ⟨b,o,rfl,c3⟩)⟩
 have done:∀{B:Nat→Prop} {ys:List r.D},r.flat=true→Rd w B (.sl r) [v] ys→rows=ys→QQ=bx→d=9→
   1≤d∧ ∃E' F css Fs R,HE E w vw bx G E' QQ F∧F.Perm (List.flatten Fs++R)∧FL w E'.S (d-1) r css rows Fs∧ju P w r.n rows.length v css.flatten:=by
  intro B ys hf hr e1 e2 e3;subst e1 e2 e3;obtain⟨css,k1,k2⟩:=plain hf hr E.S;exact⟨by omega,E,[],css,_,[],HE.refl h,by simp,k1,k2⟩
 unfold nf at e;split at e
 ·rename_i s
  simp only[ALt,AM4]at e;obtain⟨rfl,e⟩:=e;have e:=AQj e;simp only[APo]at e;obtain⟨rfl,rfl,rfl⟩:=e;have YQ:=W4 hv;subst YQ;refine⟨by omega,E,[],s.map fun c=>[Value.int .u8 (c.toNat:Int)],_,[],HE.refl h,?_,FL.flat (B:=fun _=>False) rfl (by simp) (by simp[Ty.n]) (fun i cs y a b=> ?_),?_⟩
  ·simp
  ·simp only[AQt,AL9]at a b
   obtain⟨c1,z1,rfl⟩:=a;obtain⟨c2,z2,rfl⟩:=b;grind[Rd]
  grind[AFj,Ty.n]
 ·rename_i s q ys
  split at e
  ·rename_i hf
   simp only[ALt,AM4]at e;obtain⟨rfl,e⟩:=e;have e:=AQj e;simp only[APo]at e;obtain⟨rfl,rfl,rfl⟩:=e;exact done hf hv rfl rfl rfl
  ·split at e
   case isFalse=>cases e
   rename_i hs;simp only[ALt,AM4]at e;obtain⟨rfl,e⟩:=e;have e:=AQj e;simp only[APo]at e;obtain⟨rfl,rfl,rfl⟩:=e;subst hs;simp only[VR,ATK]at hv;simp only[Rd]at hv;obtain⟨a,cap,e1,hle,hr⟩:=hv;simp only[AQY,ATS]at e1;subst e1;have key:∃css:List (List Value),List.length css=ys.length∧(∀c∈css,c.length=q.n)∧(∀(i:Nat) cs y,css[i]? =some cs→ys[i]? =some y→Rd w E.S q cs y)∧ju P w q.n ys.length (.slice a ys.length cap) css.flatten:=by
    rcases hr with hr|⟨b,o,rfl,_,hr⟩
    ·have:ys=[]:=APu hr
     subst this;exact⟨[],rfl,by simp,fun i cs y h=>by simp at h,Qi (css:=[]) rfl (by simp) (.inl rfl)⟩
    ·obtain⟨css,c1,c2,c3,c4⟩:=o8 hr
     exact⟨css,c1,c2,c4,Qi c1 c2 (.inr ⟨b,o,rfl,c3⟩)⟩
   obtain⟨css,c1,c2,c3,c4⟩:=key;refine⟨AQE _,E,[],css,List.replicate ys.length [],[],HE.refl h,by simp,⟨c1,by simp,c2,fun i cs y G a b c=> ?_⟩,c4⟩;grind[List.mem_of_getElem?,lE]
 ·rename_i b
  split at e
  case h_2=>cases e
  rename_i d0 q ys hb;split at e
  ·rename_i hf
   simp only[ALt,AM4]at e;obtain⟨rfl,e⟩:=e;have e:=AQj e;simp only[APo]at e;obtain⟨rfl,rfl,rfl⟩:=e;obtain⟨Fs,hB,hS⟩:=h;exact done hf (aF hw hB hS.st hv (q:=q) (ys:=ys) (by simp[NN,hb,G_])) rfl rfl rfl
  ·simp only[ALt,AM4]at e
   obtain⟨rfl,e⟩:=e;have e:=AQj e;simp only[APo]at e;obtain⟨rfl,rfl,rfl⟩:=e;obtain⟨F,⟨hd,ho⟩,hB⟩:=h.take hb;have hvw:=X_ hw hb;simp only[VR,hvw,DA,ALt]at hv;obtain⟨_,_,_,rfl⟩:=hv;obtain⟨m,rfl⟩:∃m,d0=m+1:=⟨d0-1,by omega⟩;obtain⟨a,cap,css,Fs,R,e1,hle,cR,hp,hcase⟩:=nc ho;refine⟨hd,E,F,css,Fs,R,⟨Le.refl _,by simp,fun n B hn=> ?_,hB⟩,hp,cR,?_⟩
   ·grind
   ·rw[e1]
    refine Qi cR.1 cR.2.2.1 ?_
    grind
 ·rename_i b p _
  split at e
  case h_2=>cases e
  rename_i d0 q ys hb;simp only[AMR]at e;obtain⟨⟨q',zs⟩,e1,e⟩:=e;dsimp only at e;split at e
  case isFalse=>cases e
  rename_i hf;simp only[ALt,AM4]at e;obtain⟨rfl,e⟩:=e;have e:=AQj e;simp only[APo]at e;obtain⟨rfl,rfl,rfl⟩:=e;obtain⟨Fs,hB,hS⟩:=h;exact done hf (aF hw hB hS.st hv (q:=q') (ys:=zs) (by simp[NN,hb,e1])) rfl rfl rfl
 ·rename_i b p off n
  split at e
  case h_2=>cases e
  rename_i d0 q ys hb;simp only[AMR]at e;obtain⟨⟨q',zs⟩,e1,e⟩:=e;dsimp only at e;split at e
  case isFalse=>cases e
  rename_i hf;simp only[ALt,AM4]at e;obtain⟨rfl,e⟩:=e;have e:=AQj e;simp only[APo]at e;obtain⟨rfl,rfl,rfl⟩:=e;obtain⟨Fs,hB,hS⟩:=h;exact done hf (aF hw hB hS.st hv (q:=q') (ys:=(zs.drop off).take n) (by simp[NN,hb,e1])) rfl rfl rfl
 simp_all
theorem fQ{E:Env}{w:World}{vw bx:List Bx}{G:ABJ}(h:DD E w vw bx G)(hw:FM bx vw){x:AV}{v:Value}(hv:VR E w vw x v){r:Ty}{rows:List r.D}{QQ:List Bx}{d:Nat}
  (e:ni bx x=some ⟨r,rows,QQ,d⟩):1≤d∧ ∃F1 F2,HE E w vw bx G E QQ (F1++F2)∧Ow w E.S d (.sl r) [v] rows F1:=by
 have tk:∀{b d0:Nat} {q:Ty} {ys:List q.D},bx[b]? =some (.sl d0 q ys)→ ∃F,1≤d0∧Ow w E.S d0 (.sl q) [E.H3 b] ys F∧HE E w vw bx G E (bx.set b .dead) F:=by
  intro b d0 q ys hb;obtain⟨F,⟨hd,ho⟩,hB⟩:=h.take hb;refine⟨F,hd,ho,⟨Le.refl _,by simp,fun n B hn=> ?_,hB⟩⟩;grind
 unfold ni at e;split at e
 ·rename_i b
  split at e
  case h_2=>cases e
  rename_i d0 q ys hb;simp only[ALt,AM4]at e;obtain⟨rfl,e⟩:=e;have e:=AQj e;simp only[APo]at e;obtain⟨rfl,rfl,rfl⟩:=e;obtain⟨F,hd,ho,hT⟩:=tk hb;have hvw:=X_ hw hb;simp only[VR,hvw,DA,ALt]at hv;obtain⟨_,_,_,rfl⟩:=hv;exact⟨hd,F,[],by simp_all,ho⟩
 ·rename_i b off n
  split at e
  case h_2=>cases e
  rename_i d0 q ys hb;simp only[ALt,AM4]at e;obtain⟨rfl,e⟩:=e;have e:=AQj e;simp only[APo]at e;obtain⟨rfl,rfl,rfl⟩:=e;obtain⟨F,hd,ho,hT⟩:=tk hb;have hvw:=X_ hw hb;simp only[VR,hvw,DA,ALt]at hv;obtain⟨_,_,q',zs,a,len,cap,h1,h2,h3,rfl⟩:=hv;simp only[G_,ALt,AM4]at h1;obtain⟨rfl,h1⟩:=h1;obtain rfl:=AQj h1;rw[h3]at ho;obtain⟨m,rfl⟩:∃m,d0=m+1:=⟨d0-1,by omega⟩;obtain⟨F1,F2,hp,xG⟩:=AF0 ho h2;exact⟨hd,F1,F2,⟨hT.le,hT.len,hT.within,hT.boxes.perm (AUI _ hp)⟩,xG⟩
 simp_all
end Go.Fw
end
section
namespace Go.Fw
theorem fT{P:Program}{w:World}{a:Option Addr}{n cap size:Nat}{css:List (List Value)}(hl:css.length=n)(hc:∀c∈css,c.length=size)
  (h:n=0∨ ∃b o,a=some ⟨b,o,none⟩∧Bc w b o css.flatten):∀w',w'.heap=w.heap→(Builtin.firstCells size n (.slice a n cap)).run P w' = .ok css.flatten.toArray w':=
 (Qi (P:=P) (cap:=cap) hl hc h).cells
theorem ZL{z:Array Value}{n:Nat}:(Builtin.zeroCells z n).size=n*z.size:=size_zeroCells z n
section
variable{Y:Type} {P:Program} {T:Jp} (hT:Em P T) {o:Oper} {E:Env} {σ:St} {a:Act} {w:World} {k:K Y} {y:Y}
include hT
theorem mC(h:Rel E σ a w){E2:Env}{aU:List Bx}{F Fd R:ABJ}{t u ty:TypeId}{ts:Array TypeId}(vW:ts[0]? =some t)(wi:ts[1]? =some u)
  (hu:(∃e,P.underlying u=some (.slice e))∨P.underlying u=some .string) {m:Nat} {r:Ty} (UR:T.ND t r=true)
  (kT:HE E w σ.bx σ.bx [] E2 aU F) {v1 v2:Value} {drows Rx:List r.D} {css:List (List Value)} {Fs:List ABJ}
  (ho:Ow w E2.S (m+1) (.sl r) [v1] drows Fd) (hs:FL w E2.S m r css Rx Fs) (hn:ju P w r.n Rx.length v2 css.flatten) (hp:F.Perm (Fd++Fs.flatten++R)) (Xx:drows.length+Rx.length≤Dw):
  ∃v w' E',(Builtin.append_ ts ty #[v1,v2]).run P w= .ok v w'∧Rel E' { σ with bx:=aU++[.sl (m+1) r (drows++Rx)] } a w'∧RJ [] E σ.bx w E' (aU++[.sl (m+1) r (drows++Rx)]) w'∧
   XR E' w' (aU++[.sl (m+1) r (drows++Rx)]) (.c (.ref aU.length [])) v:=by
 obtain⟨e,ti,hut,Uv,hs1,hby,hrow⟩:=KX hT UR;obtain⟨i,z,i1,i2,i3,i4,i5,hg⟩:=WU hT Uv hrow;rw[hs1]at i2;obtain⟨Fs0,hB1,Xr⟩:=kT.boxes;simp only[AM3]at Xr;have hdF:∀c∈Fd,c∈F:=fun c hc=>hp.mem_iff.2 (by simp[hc])
 have hsF:∀c∈Fs.flatten,c∈F:=fun c hc=>hp.mem_iff.2 (by simp_all)
 have ndF:=(AM6.1 (hp.nodup_iff.1 (AM6.1 Xr.nodup).2.1)).1;have ltF:∀c∈F,c<w.heap.size:=fun c hc=>Xr.lt c (by simp_all)
 have AdG:∀c∈F,¬E2.S c:=fun c hc hS=>Xr.free c (by simp_all) (Xr.st c hS)
 have ho0:=ho;obtain⟨ad,cap,dcss,Fs1,R1,rfl,hle,hd,hp1,hcase⟩:=nc ho;have cX:css.flatten.length=Rx.length*r.n:=by rw[Hl hs.2.2.1,hs.1]
 have hdl:dcss.flatten.length=drows.length*r.n:=by rw[Hl hd.2.2.1,hd.1]
 by_cases S_:drows.length+Rx.length≤cap
 ·rcases hcase with⟨h0,hF0⟩|⟨b,of,arr,ty0,fr,rfl,hb,PN,hunf,rfl,hc⟩
  ·
   have hd0:drows=[]:=APu (by omega);have hs0:Rx=[]:=APu (by omega);subst hd0 hs0;have hc0:css=[]:=APu hs.1;subst hc0 h0;have lM:=nF (P:=P) (w:=w) (ty:=ty) vW wi hut hu i1 i2 (a:=ad) (x:=v2) (by simp_all);obtain⟨r1,r2,r3⟩:=TO h kT (w':=w) (d:=m+1) (by omega) ho0 (fun c hc=> .inl (hdF c hc)) (AM6.1 ndF).1 (fun c hc=>ltF c (hdF c hc)) (fun _ _ _=>rfl) ⟨rfl,rfl,rfl,AQE _⟩;grind
  ·
   have da:of+drows.length*r.n+css.flatten.length≤arr.size:=by
    have:(drows.length+Rx.length)*r.n≤cap*r.n:=AOi _ S_;grind
   have lM:=fE (P:=P) (w:=w) (ty:=ty) vW wi hut hu i1 i2 (b:=b) (o:=of) hn S_ (Uc hb da hunf) hs.one;have hbF:b∈F:=hdF b (by simp);have bd:∀c,c∈Fs1.flatten∨c∈Fs.flatten∨E2.S c→c≠b:=by
    grind
   have dZ:∀c,c≠b→(w.setCells b (of+drows.length*r.n) css.flatten).heap[c]? =w.heap[c]?:=fun c hc=>DP _ _ _ _ _ hc
   have v7:=hd.mono (w':=w.setCells b (of+drows.length*r.n) css.flatten) (S':=E2.S) (fun _ h=>h) (fun c hc=>dZ c (bd c (.inr (.inr hc)))) (fun c hc=>dZ c (bd c (.inl hc)));have xm:=hs.mono (w':=w.setCells b (of+drows.length*r.n) css.flatten) (S':=E2.S) (fun _ h=>h) (fun c hc=>dZ c (bd c (.inr (.inr hc)))) (fun c hc=>dZ c (bd c (.inr (.inl hc))));have gP:=v7.append xm;have AFB:Bc (w.setCells b (of+drows.length*r.n) css.flatten) b of (dcss++css).flatten:=by
    grind[List.flatten_append,Bc.append,UA,Ny]
   have how:Ow (w.setCells b (of+drows.length*r.n) css.flatten) E2.S (m+1) (.sl r) [.slice (some ⟨b,of,none⟩) (drows.length+Rx.length) cap] (drows++Rx) (b::(Fs1++Fs).flatten):=by
    simp only[Ow];refine⟨_,cap,by rw[AOs],by simp_all,.inr ⟨b,of,_,ty0,fr,Fs1++Fs,rfl,Fj _ _ _ _ _ _ _ hb,by rw[Fh];omega,by rw[Fh];omega,rfl,gP.2.1,fun j q G hq hG=> ?_⟩⟩;have hj:=(AMG.1 hq).1;have h1:=gP.1;have qq:j<(dcss++css).length:=by omega
    refine⟨(dcss++css)[j],gP.2.2.1 _ (AMk _),fun x u hx=> ?_,gP.2.2.2 j _ _ _ (ALR qq) hq hG⟩;have hxl:=(AMG.1 hx).1;rw[gP.2.2.1 _ (AMk _)]at hxl;have:=Ya (n:=r.n) (css:=dcss++css) (ex:=[]) (i:=j) gP.2.2.1 (ALR qq) hxl;rw[AM3,hx]at this;have:=AFB _ _ this;grind
   have ql:(b::(Fs1++Fs).flatten)=(b::Fs1.flatten)++Fs.flatten:=by simp
   rw[ql]at how;obtain⟨r1,r2,r3⟩:=TO h kT (w':=w.setCells b (of+drows.length*r.n) css.flatten) (d:=m+1) (by omega) how (fun c hc=> .inl ((AOl.1 hc).elim (hdF c) (hsF c))) ndF
    (fun c hc=>by grind[Dc]) (fun c hc hcF=>dZ c (fun e=>hcF (e▸hbF))) (CC _ _ _ _)
   grind
 ·
  have hold:drows.length=0∨ ∃b o,ad=some ⟨b,o,none⟩∧Bc w b o dcss.flatten:=by
   grind
  have lM:=bo (P:=P) (w:=w) (ty:=ty) vW wi hut hu i1 i4 i2 (fT (P:=P) (cap:=cap) hd.1 hd.2.2.1 hold) hn (by omega) Xx (by omega);have hge:=grownCap_ge w (drows.length+Rx.length) cap e
  generalize hgc:grownCap w (drows.length+Rx.length) cap e=gc at lM hge
  let arr:Array Value:=dcss.flatten.toArray++css.flatten.toArray++Builtin.zeroCells z.cells (gc-(drows.length+Rx.length))
  have cU:arr.toList=(dcss++css).flatten++(Builtin.zeroCells z.cells (gc-(drows.length+Rx.length))).toList:=by simp[arr]
  have hzl:z.cells.size=r.n:=by rw[←AVV,i5,Gw]
  have Abt:arr.size=gc*r.n:=by
   simp only[arr,AXb,AXc,ZL,hzl,cX,hdl,←ATm];simp_all
  let w':=w.drew.alloc (.cells arr e)
  have new:w'.heap[w.heap.size]? =some (.cells arr e):=by
   show(w.heap.push (.cells arr e))[w.heap.size]? =_
   simp
  have AE7:∀c,c<w.heap.size→w'.heap[c]? =w.heap[c]?:=fun c hc=>Iz (w:=w) (o:= .cells arr e) hc
  have hR1:∀c∈Fs1.flatten,c∈Fd:=fun c hc=>hp1.mem_iff.2 (by simp_all)
  have v7:=hd.mono (w':=w') (S':=E2.S) (fun _ h=>h) (fun c hc=>AE7 c (Xr.cf c (Xr.st c hc))) (fun c hc=>AE7 c (ltF c (hdF c (hR1 c hc))));have xm:=hs.mono (w':=w') (S':=E2.S) (fun _ h=>h) (fun c hc=>AE7 c (Xr.cf c (Xr.st c hc))) (fun c hc=>AE7 c (ltF c (hsF c hc)));have gP:=v7.append xm;have how:Ow w' E2.S (m+1) (.sl r) [.slice (some ⟨w.heap.size,0,none⟩) (drows++Rx).length gc] (drows++Rx) (w.heap.size::(Fs1++Fs).flatten):=
   dQ new cU gP.1 (by simp_all) (by omega) (WQ _) gP.2.1 gP.2.2.2
  rw[AOs]at how;have PY:∀c∈(Fs1++Fs).flatten,c∈Fd++Fs.flatten:=by
   grind
  have nd1:(Fs1++Fs).flatten.Nodup:=by
   grind
  have Ad3:∀c∈(Fs1++Fs).flatten,c∈F:=fun c hc=>(AOl.1 (PY c hc)).elim (hdF c) (hsF c)
  obtain⟨r1,r2,r3⟩:=TO h kT (w':=w') (d:=m+1) (by omega) how (by
    simp_all) (by
    grind) (by
    grind) (fun c hc _=>AE7 c hc) ⟨rfl,rfl,rfl,by simp[w']⟩
  grind
end
end Go.Fw
end
section
namespace Go.Fw
theorem Wa{α β:Type}{args:Array α}{f:α→β}{x y:β}(h:args.toList.map f=[x,y]):∃a b,args= #[a,b]∧f a=x∧f b=y:=by
 obtain⟨l⟩:=args
 match l,h with
 |[a,b],h=>grind
theorem Wm{α β:Type}{args:Array α}{f:α→β}{x:β}(h:args.toList.map f=[x]):∃a,args= #[a]∧f a=x:=by
 obtain⟨l⟩:=args;simp_all
section
variable{Y:Type} {P:Program} {T:Jp} (hT:Em P T) {o:Oper} {E:Env} {σ:St} {a:Act} {w:World} {k:K Y} {y:Y}
include hT
theorem xH(h:Rel E σ a w){c:Call}{x1 x2:XV}(ho:o.op= .call c)(hc:c.callee= .builtin .append)(IQ:c.args.toList.map σ.ev=[x1,x2])(e:eC T c.argTypes σ x1 x2 k=some y):LH P o E σ a w k y:=by
 obtain⟨o1,o2,hargs',rfl,rfl⟩:=Wa IQ;have bf:=h.ev o1;have Z7:=h.ev o2;have exec:∀{v w'},(Builtin.append_ c.argTypes o.type #[a.eval o1,a.eval o2]).run P w= .ok v w'→(execOp a.eval o).run P w= .ok (.value v) w':=by
  intro v w' hr;simp only[execOp,ho,resolve,hc,hargs',invoke,builtin,Sem.run_bind,Sem.run_pure,Result.andThen_ok,List.map_toArray,AUm,AXU,hr]
 unfold eC at e;split at e
 case h_2=>cases e
 rename_i t u vW wi;split at e
 case isFalse=>cases e
 rename_i hu;have hu':(∃e,P.underlying u=some (.slice e))∨P.underlying u=some .string:=by
  rw[ATI]at hu;grind[lO,Wx]
 split at e
 ·
  rename_i z hz1 hz2;rw[hz1]at bf;rw[hz2]at Z7;simp only[AMR]at e;obtain⟨⟨r,rows,QQ,d⟩,e1,e⟩:=e;dsimp only at e;split at e
  case isFalse=>cases e
  rename_i UR;split at e
  case isFalse=>cases e
  rename_i Xx;obtain⟨hd,E',F,css,Fs,R,kT,hp,hs,hn⟩:=fS (P:=P) h.bx (FM.refl _) Z7 e1;obtain⟨m,rfl⟩:∃m,d=m+1:=⟨d-1,by omega⟩;have AbF:a.eval o1= .slice none 0 0:=bf;obtain⟨v,w',E3,hr,r1,r2,r3⟩:=mC hT h (ty:=o.type) vW wi hu' UR kT (v1:= .slice none 0 0) (Fd:=[]) (drows:=[]) n_ hs hn (R:=R) (by simp_all) (by simp_all);rw[←AbF]at hr;simp only[ATL]at r1 r3;exact⟨_,_,_,_,_,.inl (exec hr),r1,r3,r2.any,rfl,e⟩
 ·rename_i z1 z2 yr hz1 hz2
  rw[hz1]at bf;rw[hz2]at Z7;simp only[AMR]at e;obtain⟨⟨r,rows,jq,d⟩,e1,e⟩:=e;dsimp only at e;split at e
  case isFalse=>cases e
  rename_i UR;simp only[AMR]at e;obtain⟨⟨q,srows0,aU,ds⟩,e2,Rx,e3,e⟩:=e;dsimp only at e e3;obtain⟨hqr,e4⟩:=H7 e3;subst hqr;subst e4;dsimp only at e;split at e
  case isFalse=>cases e
  rename_i Xx;obtain⟨hd,F1,F2,k1,ho1⟩:=fQ h.bx (FM.refl _) bf e1;obtain⟨hds,E',F3,css,Fs,R,k2,hp,hs,hn⟩:=fS (P:=P) k1.boxes ((FM.refl _).qY k1) Z7 e2;obtain⟨m,hm⟩:∃m,min d ds=m+1:=⟨min d ds-1,by omega⟩;rw[hm]at e;obtain⟨A,W1,p1,ho1'⟩:=J9 (d:=m+1) (by omega) ho1;obtain⟨Gs,W2,p2,xm⟩:=hs.weaken (d':=m) (by omega);have hB:=k2.boxes.perm (G':=(A++Gs.flatten++(R++F2))++(W1++W2)++[]) (by
   grind)
  obtain⟨hle,Xr⟩:=hB.share;have kT:HE E w σ.bx σ.bx [] _ aU (A++Gs.flatten++(R++F2)):=⟨(k1.le.trans k2.le).trans hle,k2.len.trans k1.len,fun b B hb=>(k2.within b B hb).elim .inl (k1.within b B),Xr⟩;have ho2:Ow w (fun c=>E'.S c∨c∈W1++W2) (m+1) (.sl q) [a.eval o1] rows A:=
   Eb (fun c hc=>hc.imp (k2.le.S c) (by simp_all)) (fun _ _=>rfl) (fun _ _=>rfl) ho1'
  have hs2:FL w (fun c=>E'.S c∨c∈W1++W2) m q css srows0 Gs:=xm.mono (fun c hc=>hc.imp id (by simp_all)) (fun _ _=>rfl) (fun _ _=>rfl);obtain⟨v,w',E3,hr,r1,r2,r3⟩:=mC hT h (ty:=o.type) vW wi hu' UR kT ho2 hs2 hn (AXr _) Xx;exact⟨_,_,_,_,_,.inl (exec hr),r1,r3,r2.any,rfl,e⟩
 simp_all
end
end Go.Fw
end
section
namespace Go.Fw
theorem nQ{P:Program}{w:World}{b o:Nat}{ty:TypeId}{v:Value}(ht:w.there b o v.cells.toList.length)(hi:(P.info? ty).map (·.size)=some v.cells.toList.length)(h1:∀u∈v.cells.toList,u.oneCell' =true):
  (Instr.storeAt ty (.pointer (some ⟨b,o,none⟩)) v).run P w= .ok () (w.setCells b o v.cells.toList):=by
 have:=run_storeCells_cells (P:=P) b o v.cells.toList 0 w (fun j hj=>by simpa using(ht j hj).1) (fun j hj=>by simpa using(ht j hj).2) h1;cases hq:P.info? ty with
 |none=>simp_all
 |some i=>
  have hs:v.cells.size=i.size:=by simp_all
  simp only[ATu]at this;simp[Instr.storeAt,Instr.sureAddr,storeVar,sizeOf,typeInfo,hq,hs,this]
theorem bK{E E1 E':Env}{w w':World}{vw jq QQ:List Bx}{F:ABJ}(b0:Nat)(k:HE E w vw vw [] E1 jq F)(st:∀c,E.S c→E.T c)(hlen:vw.length≤QQ.length)
  (vZ:∀b d r rows,b≠b0→b<vw.length→QQ[b]? =some (.sl d r rows)→jq[b]? =some (.sl d r rows)) (ADW:∀b,b<vw.length→E'.H0 b=E1.H0 b) (mj:∀b,b<vw.length→E'.H3 b=E1.H3 b) (hT:E'.T=E1.T) (hS:E'.S=E1.S)
  (hw:∀c,c<w.heap.size→c∉F→w'.heap[c]? =w.heap[c]?)
  (h0:∀d r rows,QQ[b0]? =some (.sl d r rows)→ ∃d0 Rt,vw[b0]? =some (.sl d0 r Rt)∧
   ∀p,DF r Rt p→ ∀q ys,G_ r Rt p=some ⟨q,ys⟩→DF r rows p∧(∃vX,G_ r rows p=some ⟨q,vX⟩∧List.length vX=List.length ys)∧
    ∀h,Iw w (E.H3 b0) p=some h→Iw w' (E'.H3 b0) p=some h):Sh E w vw E' w' QQ:=by
 have hB:=k.boxes;obtain⟨Fs,⟨h1,h2⟩,h3⟩:=hB;simp only[AM3]at h3;have x_:∀c,E1.T c→w'.heap[c]? =w.heap[c]?:=fun c hc=>hw c (h3.cf c hc) fun hf=>h3.free c (by simp[hf]) hc
 refine⟨hlen,fun b hb=>by rw[ADW b hb,k.le.H0],fun c hc=>by rw[hT];exact k.le.T c hc,fun c hc=>by rw[hS];exact k.le.S c hc,st,fun c hc=>x_ c (k.le.T c hc),fun b d r rows hb e=> ?_⟩;by_cases hb0:b=b0
 ·simp_all
 have e1:=vZ b _ _ _ hb0 hb e;rcases k.within b _ e1 with e2|e2
 ·cases e2
 ·refine⟨d,rows,e2,fun p hp q ys hg=>⟨hp,⟨ys,hg,rfl⟩,fun h' hh=> ?_⟩⟩
  have hF:Fs[b]? =some (Fs[b]'(by grind)):=ALR _;obtain⟨hd,ho⟩:=h2 b _ _ e1 hF;rw[mj b hb];rw[←k.le.H3]at hh;refine vN ho (fun c hc=>x_ c (h3.st c hc)) (fun c hc=> ?_) hp hg hh;have PY:c∈Fs.flatten:=ASW.2 ⟨_,ANe hF,hc⟩;exact hw c (h3.lt c (by simp[PY])) fun hf=>(AM6.1 h3.nodup).2.2 c PY c hf rfl
def Bx.map(f:AV→AV):Bx→Bx
 | .mem cs=> .mem (cs.map f)
 |B=>B
theorem DD.AWq{E E':Env}{w w':World}{vw vw' bx:List Bx}{G:ABJ}(f:AV→AV)(h:DD E w vw bx G)(k:∀x v,VR E w vw x v→VR E' w' vw' (f x) v)
  (hS:∀c,E.S c→E'.S c) (ADW:∀b,b<bx.length→E'.H0 b=E.H0 b) (mj:∀b,b<bx.length→E'.H3 b=E.H3 b)
  (hw:∀c,(E.S c∨(¬E.T c∧c∉G))→c<w.heap.size→w'.heap[c]? =w.heap[c]?)
  (AEU:∀F,Sep E w (F++G)→Sep E' w' (F++G)):DD E' w' vw' (bx.map (Bx.map f)) G:=by
 obtain⟨Fs,⟨hl,h1⟩,h2⟩:=h;refine⟨Fs,⟨by simp_all,fun n B F hn hF=> ?_⟩,AEU _ h2⟩;rw[AQt,AL9]at hn;obtain⟨B,hn,rfl⟩:=hn;have Lu:=(AMG.1 hn).1;have h3:=h1 n B F hn hF;have AOc:∀c∈F,c∈Fs.flatten:=fun c hc=>ASW.2 ⟨F,ANe hF,hc⟩
 have hFw:∀c∈F,w'.heap[c]? =w.heap[c]?:=fun c hc=>hw c (.inr ⟨h2.free c (by simp_all),fun hg=>by
  have:=(AM6.1 h2.nodup).2.2 c (AOc c hc) c hg;omega⟩) (h2.lt c (by simp_all))
 have sy:∀c,E.S c→w'.heap[c]? =w.heap[c]?:=fun c hc=>hw c (.inl hc) (h2.cf c (h2.st c hc))
 cases B with
 |mem cs=>
  obtain⟨rfl,arr,ty,fr,ha,hu,hv⟩:=h3;refine⟨by simp_all,arr,ty,fr,?_,hu,Ca.K4 f k hv⟩;simp_all
 |sl d r rows=>
  obtain⟨hd,ho⟩:=h3;refine⟨hd,?_⟩;grind[Eb]
 |dead=>exact h3
theorem Bx.map_id:∀B:Bx,Bx.map id B=B
 | .mem cs=>by simp[Bx.map]
 | .sl _ _ _=>rfl
 | .dead=>rfl
theorem Z9(bx:List Bx):bx.map (Bx.map id)=bx:=by
 induction bx with
 |nil=>rfl
 |cons B l ih=>simp[ih,Bx.map_id]
theorem mB(b:Nat)(bx:List Bx):bx.map (AAQ b)=bx.map (Bx.map (Jm b)):=by
 rfl
theorem AC9{E:Env}{σ:St}{a:Act}{w:World}(h:Rel E σ a w){b j:Nat}{cs dx:List AV}(hb:σ.bx[b]? =some (.mem cs)){xs:List AV}{vs:List Value}(hx:iy E w σ.bx xs vs)(bd:xs≠[])
  (e:XF cs j xs=some dx):
  w.there (E.H0 b) j vs.length∧Rel E { σ with bx:=σ.bx.set b (.mem dx) } a (w.setCells (E.H0 b) j vs)∧RJ [b] E σ.bx w E (σ.bx.set b (.mem dx)) (w.setCells (E.H0 b) j vs):=by
 have st:=h.bx.st;obtain⟨F,⟨rfl,arr,ty,fr,ha,hu,hv⟩,hB⟩:=h.bx.take hb;simp only[AM3]at hB;have Lu:=(AMG.1 hb).1;rcases Xa hv hx e with⟨h1,h2⟩|⟨h1,_⟩
 case inr=>simp_all
 have da:j+vs.length≤arr.size:=by
  have l1:=Ca.len hv;have l2:=Ca.len hx;simp_all
 have bw: ¬E.T (E.H0 b):=hB.AEG _ (by simp);have hB0:=hB;have dZ:∀c,c≠E.H0 b→(w.setCells (E.H0 b) j vs).heap[c]? =w.heap[c]?:=fun c hc=>DP _ _ _ _ _ hc
 have hw:∀c,c<w.heap.size→c∉[E.H0 b]→(w.setCells (E.H0 b) j vs).heap[c]? =w.heap[c]?:=fun c _ hc=>dZ c (by simp_all)
 have kT:HE E w σ.bx σ.bx [] E (σ.bx.set b .dead) [E.H0 b]:=⟨Le.refl _,by simp,fun n B hn=>by
  grind,by simp_all⟩
 have keep:Sh E w σ.bx E (w.setCells (E.H0 b) j vs) (σ.bx.set b (.mem dx)):=bK b kT st (by simp) (fun n d r rows hn _ hq=>by
   grind) (fun _ _=>rfl) (fun _ _=>rfl) rfl rfl hw (fun d r rows hq=>by
   simp_all)
 refine⟨Uc ha da hu,⟨h.NO,h.tm.imp fun _ _ hq=>PK keep hq,?_⟩,⟨⟨fun _ h=>h,fun _ h=>h,fun _ h=> .inl h,fun _ h=> .inl h,fun c hc=>dZ c (fun e=>bw (e▸hc)),(CC _ _ _ _).os,(CC _ _ _ _).tape,(CC _ _ _ _).output,(CC _ _ _ _).size⟩,by simp,fun _ _=>⟨rfl,rfl⟩,fun n hn=>by
  grind,fun n B B' qu hB TV qt=>by
  simp at qu;rw[ASj (fun e=>qu e.symm),hB]at TV;cases TV;refine⟨U5.refl qt,fun c hc=>dZ c (fun e=> ?_)⟩;obtain⟨Fs,⟨f1,f2⟩,f3⟩:=hB0;have Xr:(σ.bx.set b .dead)[n]? =some B:=by grind
  have hF:Fs[n]? =some (Fs[n]'(by grind)):=ALR _;rcases eU (f2 n B _ Xr hF) hc with hs|hs
  ·simp_all
  ·exact(AM6.1 f3.nodup).2.2 c (ASW.2 ⟨_,ANe hF,hs⟩) (E.H0 b) (by simp) e⟩⟩
 have hT:=hB.turn (E':=E) (w':=w.setCells (E.H0 b) j vs) (vw':=σ.bx.set b (.mem dx)) (fun x v hq=>GM keep hq) (fun _ h=>h) (fun _ _=>rfl) (fun _ _=>rfl) (fun c hc _=>dZ c (fun e=>by
   simp_all)) (fun F hF=>⟨hF.nodup,hF.free,fun c hc=>by rw[Dc];exact hF.lt c hc,hF.st,fun c hc=>by rw[Dc];exact hF.cf c hc⟩)
 have:=DD.put (b:=b) (B:= .mem dx) (F:=[E.H0 b]) (G:=[]) (by simpa using hT) (by simp_all) ⟨rfl,FJ arr j vs,ty,fr,Fj _ _ _ _ _ _ _ ha,by rw[Fh];omega,h1.imp fun _ _ hq=>GM keep hq⟩;simp_all
theorem W_:∀{r:Ty} {j j':Nat} {x:r.D} {t:Ty} {y:t.D} {x':r.D},EB r j x t y=some x'→j'≠j→BO r j' x' =BO r j' x
 | .cons c r,0,j',x,t,y,x',e,hj=>by
  simp only[EB]at e;split at e
  ·rename_i h
   subst h;simp only[ALt]at e;subst e;cases j' with
   |zero=>omega
   |succ j' =>rfl
  simp_all
 | .cons c r,j+1,j',x,t,y,x',e,hj=>by
  simp only[EB,AL9]at e;obtain⟨z,e1,rfl⟩:=e;cases j' with
  |zero=>rfl
  |succ j' =>
   simp only[BO];exact W_ e1 (by omega)
 | .unit,_,_,_,_,_,_,e,_=>by rfl
 | .int k,0,j',x,t,y,x',e,hj=>by cases j' with
  |zero=>omega
  |succ j' =>rfl
 | .bool,0,j',x,t,y,x',e,hj=>by cases j' with
  |zero=>omega
  |succ j' =>rfl
 | .str,0,j',x,t,y,x',e,hj=>by cases j' with
  |zero=>omega
  |succ j' =>rfl
 | .sl _,0,j',x,t,y,x',e,hj=>by cases j' with
  |zero=>omega
  |succ j' =>rfl
 | .int _,_+1,_,_,_,_,_,e,_=>by simp[EB]at e
 | .bool,_+1,_,_,_,_,_,e,_=>by simp[EB]at e
 | .str,_+1,_,_,_,_,_,e,_=>by simp[EB]at e
 | .sl _,_+1,_,_,_,_,_,e,_=>by simp[EB]at e
theorem Uk:∀{r:Ty} {j:Nat} {x:r.D} {t:Ty} {y:t.D} {x':r.D},EB r j x t y=some x'→BO r j x' =some ⟨t,y⟩∧ ∃y0:t.D,BO r j x=some ⟨t,y0⟩
 | .cons c r,0,x,t,y,x',e=>by
  simp only[EB]at e;split at e
  ·rename_i h
   subst h;simp only[ALt]at e;subst e;exact⟨rfl,_,rfl⟩
  simp_all
 | .cons c r,j+1,x,t,y,x',e=>by
  simp only[EB,AL9]at e;obtain⟨z,e1,rfl⟩:=e;simp only[BO];exact Uk e1
 | .unit,_,_,_,_,_,e=>by simp[EB]at e
 | .int k,0,x,t,y,x',e=>by
  simp only[EB]at e;split at e
  ·rename_i h;subst h;cases e;exact⟨rfl,_,rfl⟩
  simp_all
 | .bool,0,x,t,y,x',e=>by
  simp only[EB]at e;split at e
  ·rename_i h;subst h;cases e;exact⟨rfl,_,rfl⟩
  simp_all
 | .str,0,x,t,y,x',e=>by
  simp only[EB]at e;split at e
  ·rename_i h;subst h;cases e;exact⟨rfl,_,rfl⟩
  simp_all
 | .sl _,0,x,t,y,x',e=>by
  simp only[EB]at e;split at e
  ·rename_i h;subst h;cases e;exact⟨rfl,_,rfl⟩
  simp_all
 | .int _,_+1,_,_,_,_,e=>by simp[EB]at e
 | .bool,_+1,_,_,_,_,e=>by simp[EB]at e
 | .str,_+1,_,_,_,_,e=>by simp[EB]at e
 | .sl _,_+1,_,_,_,_,e=>by simp[EB]at e
theorem jx{r:Ty}{rows:List r.D}{i k:Nat}{x:r.D}(hi:i<rows.length):rowAt r (rows.set i x) k=if k=i then x else rowAt r rows k:=by
 unfold rowAt;grind
theorem oW:∀{p:List WR} {r:Ty} {rows C1:List r.D} {q:Ty} {ys vX:List q.D},G_ r rows p=some ⟨q,ys⟩→vX.length=ys.length→pX r rows p q vX=some C1→C1.length=rows.length
 |[],r,rows,C1,q,ys,vX,h1,h2,h3=>by
  simp only[G_,ALt,AM4]at h1;obtain⟨rfl,h1⟩:=h1;obtain rfl:=AQj h1;simp only[pX,AXe,Qy,ALt]at h3;simp_all
 |s::p,r,rows,C1,q,ys,vX,h1,h2,h3=>by
  simp only[pX]at h3;split at h3
  ·simp only[AMR,AL9]at h3
   grind
  simp_all
theorem l3{t:Ty}(ht:t.scalar=true){y:t.D}{q:Ty}{i j:Nat}:∀{p':List WR} {r:Ty} {rows C1:List r.D} {p:List WR} {ys:List q.D} {aE:q.D},DF r rows p→G_ r rows p=some ⟨q,ys⟩→i<ys.length→
  EB q j (rowAt q ys i) t y=some aE→pX r rows p q (ys.set i aE)=some C1→DF r rows p'→ ∀q' zs,G_ r rows p' =some ⟨q',zs⟩→
   DF r C1 p'∧ ∃zs',G_ r C1 p' =some ⟨q',zs'⟩∧List.length zs' =List.length zs
 |[],r,rows,C1,p,ys,aE,_,hg,hi,hc,hs,_,q',zs,xr=>by
  simp only[G_,ALt,AM4]at xr;obtain⟨rfl,xr⟩:=xr;obtain rfl:=AQj xr;exact⟨by simp[DF],C1,by rfl,oW hg (by simp) hs⟩
 |s'::p',r,rows,C1,p,ys,aE,hp,hg,hi,hc,hs,hp',q',zs,xr=>by
  have hlen:=oW hg (by simp) hs;simp only[DF]at hp'⊢;obtain⟨g1,g2,g3⟩:=hp';simp only[G_]at xr⊢;split at xr
  case h_2=>cases xr
  rename_i q0 x0 iG;rw[iG]at g3;dsimp only at g3;have key:∃x1,BO r s'.j (rowAt r C1 s'.i)=some ⟨.sl q0,x1⟩∧DF q0 x1 p'∧ ∃zs',G_ q0 x1 p' =some ⟨q',zs'⟩∧List.length zs' =List.length zs:=by
   have same:BO r s'.j (rowAt r C1 s'.i)=some ⟨.sl q0,x0⟩→ ∃x1,BO r s'.j (rowAt r C1 s'.i)=some ⟨.sl q0,x1⟩∧DF q0 x1 p'∧ ∃zs',G_ q0 x1 p' =some ⟨q',zs'⟩∧List.length zs' =List.length zs:=
    fun h=>⟨x0,h,g3,zs,xr,rfl⟩
   cases p with
   |nil=>
    simp only[G_,ALt,AM4]at hg;obtain⟨rfl,hg⟩:=hg;obtain rfl:=AQj hg;simp only[pX,AXe,Qy,ALt]at hs;subst hs;apply same;rw[jx hi];split
    ·rename_i e
     subst e;by_cases ej:s'.j=j
     ·obtain⟨_,y0,h0⟩:=Uk hc
      rw[ej,h0]at iG;simp only[ALt,AM4]at iG;obtain⟨rfl,_⟩:=iG;simp[Ty.scalar]at ht
     grind[W_]
    omega
   |cons s p=>
    simp only[DF]at hp;obtain⟨k1,k2,k3⟩:=hp;simp only[G_]at hg;split at hg
    case h_2=>cases hg
    rename_i r' x hcx;rw[hcx]at k3;dsimp only at k3;simp only[pX,hcx,AMR,AL9]at hs;obtain⟨x',hs1,row2,hs2,rfl⟩:=hs;rw[jx k1];rw[jx k1]at same;split
    ·rename_i e
     rw[ALP e]at same;rw[e]at iG;by_cases ej:s'.j=s.j
     ·rw[ej]at iG⊢
      rw[hcx]at iG;simp only[ALt,AM4,Ty.sl.injEq]at iG;obtain⟨rfl,iG⟩:=iG;obtain rfl:=AQj iG;obtain⟨m1,m2⟩:=l3 ht k3 hg hi hc hs1 g3 q' zs xr;grind[Uk]
     grind[W_]
    simp_all
  grind
theorem sA{w w':World}{B:Nat→Prop}(Zl:∀A,w'.cell? A=w.cell? A∨ ∃v,w'.cell? A=some v∧isSlice v=false):∀{p:List WR} {r:Ty} {h:Value} {rows:List r.D} {hh:Value},
  Rd w' B (.sl r) [h] rows→DF r rows p→Iw w h p=some hh→Iw w' h p=some hh
 |[],_,h,_,hh,_,_,e=>by grind[DA]
 |s::p,r,h,rows,hh,hr,hp,e=>by
  simp only[DF]at hp;obtain⟨hi,PN,hp⟩:=hp;simp only[Rd]at hr;obtain⟨a,cap,e1,_,hr⟩:=hr;obtain rfl:=(List.cons.inj e1).1;rcases hr with hr|⟨b,o,rfl,hb,hr⟩
  ·omega
  obtain⟨cs,hl,hc,hrow⟩:=hr s.i _ (RC hi);split at hp
  case h_2=>exact hp.elim
  rename_i q x iG;obtain⟨v,hv,hrv⟩:=eQ hrow iG;have hcv:=hc _ _ hv;rw[←PN]at hcv;simp only[Iw]at e⊢;split at e
  case h_2=>cases e
  rename_i v0 hv0;rcases Zl ⟨b,o+s.i*s.sz+s.j,none⟩with h1|⟨u,h1,h2⟩
  ·rw[h1,hv0]
   rw[h1,hv0]at hcv;cases hcv;exact sA Zl hrv hp e
  ·rw[hcv]at h1
   cases h1;simp only[Rd]at hrv;obtain⟨_,_,e2,_⟩:=hrv;simp only[AQY,ATS]at e2;grind[isSlice]
theorem AFU{E E':Env}{w w':World}{vw vw':List Bx}{b d d':Nat}{r:Ty}{rows C1:List r.D}(k:Sh E w vw E' w' (vw'.set b .dead))(hb:vw[b]? =some (.sl d r rows))(hb':vw'[b]? =some (.sl d' r C1))(hl:C1.length=rows.length)
  (hh:E'.H3 b=E.H3 b) {x:AV} {v:Value} (h:VR E w vw x v):VR E' w' vw' (Jm b x) v:=by
 have h1:=GM k h;have dZ:∀{b'},b'≠b→(vw'.set b .dead)[b']? =vw'[b']?:=fun e=>ASj (fun h=>e h.symm)
 cases x with
 |v t x=>exact h1
 |sl s r x=>exact h1
 |nil=>exact h1
 |IL c j=>exact⟨by simpa using h1.1,h1.2⟩
 |PM s r x j=>exact h1
 |fn f KZ=>exact⟨fun c hc=>by simpa using h1.1 c hc,h1.2⟩
 |qv f rows=>exact h1
 |yW=>exact h1
 |undef=>trivial
 |ref c p=>
  cases p with
  |nil=>
   simp only[Jm];by_cases e:c=b
   ·subst e
    simp only[VR,hb,hb']at h⊢;refine⟨h.1,by simp[DF],⟨_,rfl⟩,?_⟩;grind[DA]
   grind[VR]
  |cons s p=>
   grind[Jm,VR]
 |win c p off n=>
  cases p with
  |nil=>
   simp only[Jm];by_cases e:c=b
   ·subst e
    simp only[VR,hb,hb']at h⊢;obtain⟨h0,_,q,ys,a,len,cap,e1,e2,e3,e4⟩:=h;simp only[G_,ALt,AM4]at e1;obtain⟨rfl,e1⟩:=e1;obtain rfl:=AQj e1;refine⟨h0,by simp[DF],r,C1,a,len,cap,rfl,by omega,?_,e4⟩;grind[DA]
   grind[VR]
  |cons s p=>
   grind[Jm,VR]
 |JK c p i sz j=>
  cases p with
  |nil=>
   simp only[Jm];by_cases e:c=b
   ·subst e
    simp only[VR,hb,hb']at h⊢;obtain⟨h0,_,q,ys,bb,o,len,cap,e1,e2,e3,e4⟩:=h;simp only[G_,ALt,AM4]at e1;obtain⟨rfl,e1⟩:=e1;obtain rfl:=AQj e1;refine⟨h0,by simp[DF],r,C1,bb,o,len,cap,rfl,by omega,?_,e4⟩;grind[DA]
   grind[VR]
  |cons s p=>
   grind[Jm,VR]
theorem AEy{E E':Env}{w w':World}{vw vw':List Bx}{b:Nat}(k:∀x v,VR E w vw x v→VR E' w' vw' (Jm b x) v){x:XV}{v:Value}(h:XR E w vw x v):XR E' w' vw' (vA b x) v:=by
 cases x with
 |c x=>exact k x v h
 |agg l=>
  obtain⟨vs,rfl,VO⟩:=h;exact⟨vs,rfl,Ca.K4 _ k VO⟩
 |Me l=>
  obtain⟨vs,rfl,VO⟩:=h;refine⟨vs,rfl,Ca.K4 _ (fun x v hx=> ?_) VO⟩;cases x with
  |inl x=>exact k x v hx
  |inr q=>
   obtain⟨us,rfl,hus⟩:=hx;exact⟨us,rfl,Ca.K4 _ k hus⟩
end Go.Fw
end
section
namespace Go.Fw
theorem qQ{w:World}{vw:List Bx}{E:Env}{bx:List Bx}{G:ABJ}(h:DD E w vw bx G)(hw:FM bx vw){d:Nat}(hd:1≤d){q:Ty}{old:q.D}{j:Nat}{x:XV}{v:Value}(hv:XR E w vw x v){aE:q.D}{QQ:List Bx}{d':Nat}
  (e:pT d q old j x bx=some (aE,QQ,d')):1≤d'∧d'≤d∧ ∃E' F,HE E w vw bx G E' QQ F∧
   ((j=0∧x.plain=false∧Ow w E'.S (d'-1) q v.cells.toList aE F)∨(∃t y,v.cells.toList=[v]∧Ow w E'.S (d'-1) t [v] y F∧EB q j old t y=some aE∧(x.plain=true→t.scalar=true∧isSlice v=false))):=by
 unfold pT at e;split at e
 ·rename_i l
  split at e
  case isFalse=>cases e
  rename_i hj;obtain⟨vs,rfl,VO⟩:=hv;obtain⟨h1,h2,E',F,h3,h4⟩:=Y_ h hw hd VO e;exact⟨h1,h2,E',F,h3,.inl ⟨hj,rfl,h4⟩⟩
 ·rename_i x
  split at e
  case h_2=>cases e
  rename_i t y0 hc;simp only[AMR,AL9,APo]at e;obtain⟨⟨y,jq,d1⟩,e1,row,e2,rfl,rfl,rfl⟩:=e;dsimp only at e2;have YQ:VR E w vw x v:=hv;have hk:x.known=true:=by grind[AV.known,dW]
  obtain⟨h1,h2,E',F,h3,h4⟩:=aZ h hw hd YQ e1;refine⟨h1,h2,E',F,h3,.inr ⟨t,y,by rw[(uP YQ hk).2],h4,e2,fun hp=> ?_⟩⟩;cases x with
  |v u z=>
   simp only[dW,AL9,APo]at e1;obtain⟨z',e3,_⟩:=e1;obtain⟨rfl,_⟩:=H7 e3;obtain⟨hs,hr⟩:=YQ;refine⟨hs,?_⟩;cases u<;>simp_all[Ty.scalar,Rd]<;>rfl
  |_=>simp[XV.plain]at hp
 simp_all
theorem oR{f:AV→AV}{bx:List Bx}{b d:Nat}{r:Ty}{rows:List r.D}:(bx.set b (.sl d r rows)).map (Bx.map f)=(bx.map (Bx.map f)).set b (.sl d r rows):=by
 rw[List.map_set];rfl
theorem AEr{f:AV→AV}{bx:List Bx}{n d:Nat}{r:Ty}{rows:List r.D}(h:(bx.map (Bx.map f))[n]? =some (.sl d r rows)):bx[n]? =some (.sl d r rows):=by
 rw[AQt,AL9]at h;obtain⟨B,h1,h2⟩:=h;cases B with
 |mem cs=>simp[Bx.map]at h2
 |sl d' r' C1=>rw[h1];exact congrArg some h2
 |dead=>simp[Bx.map]at h2
theorem sb{E:Env}{σ:St}{a:Act}{w:World}(h:Rel E σ a w){b i sz j:Nat}{p:List WR}{va v:Value}(hva:VR E w σ.bx (.JK b p i sz j) va){x:XV}(hv:XR E w σ.bx x v)(h1c:∀u∈v.cells.toList,u.oneCell' =true)
  {σ':St} (e:gZ σ (.c (.JK b p i sz j)) x=some σ'):
  ∃bb oo E',va= .pointer (some ⟨bb,oo,none⟩)∧w.there bb oo v.cells.toList.length∧Rel E' σ' a (w.setCells bb oo v.cells.toList)∧RJ [b] E σ.bx w E' σ'.bx (w.setCells bb oo v.cells.toList)∧σ'.tm.length=σ.tm.length:=by
 simp only[gZ]at e;split at e
 case h_2=>cases e
 rename_i d r rows hb;split at e
 case isFalse=>cases e
 rename_i lR;simp only[AMR]at e;obtain⟨⟨q,ys⟩,hg,e⟩:=e;dsimp only at e;split at e
 case isFalse=>cases e
 rename_i PN;simp only[AMR,AL9]at e;obtain⟨⟨aE,aU,d2⟩,e1,C1,e2,e3⟩:=e;dsimp only at e1 e2 e3;have st:=h.bx.st;simp only[VR,hb]at hva;obtain⟨_,hp,q1,ys1,bb,o,len,cap,g1,hi,g3,rfl⟩:=hva;rw[hg]at g1;simp only[ALt,AM4]at g1;obtain⟨rfl,g1⟩:=g1;obtain rfl:=AQj g1;have Lu:=(AMG.1 hb).1;obtain⟨Gb,⟨hd1,ho⟩,hB⟩:=h.bx.take hb;have WH:FM (σ.bx.set b .dead) σ.bx:=fun n B hn=>by
  grind
 obtain⟨hd2,hd3,E1,Fx,k1,hrow⟩:=qQ hB WH (by omega) hv e1;obtain⟨A,W,pG,ho2⟩:=J9 (d:=d2+p.length) (by omega) ho;have Xr:=k1.boxes.perm (G':=(Fx++A)++W++[]) (by
  grind)
 obtain⟨hle,hB3⟩:=Xr.share;simp only[AM3]at hB3
 generalize hE3:({ E1 with S:=fun c=>E1.S c∨c∈W,T:=fun c=>E1.T c∨c∈W }:Env)=E3 at hle hB3
 have qW:Le E E3:=k1.le.trans hle;have ho3:Ow w E3.S (d2+p.length) (.sl r) [E.H3 b] rows A:=Eb (fun c hc=>by
  subst hE3;exact hc.imp (k1.le.S c) id) (fun _ _=>rfl) (fun _ _=>rfl) ho2
 obtain⟨h',F1,F2,m1,m2,m3,m4⟩:=p9 ho3 hp hg (by omega);rw[g3]at m1;cases m1;obtain⟨m,rfl⟩:∃m,d2=m+1:=⟨d2-1,by omega⟩;rw[show m+1+p.length-p.length=m+1 by omega]at m2 m4;simp only[Nat.add_sub_cancel]at hrow;obtain⟨b1,o1,arr,ty,fr,cs,G,R,n1,n2,n3,n4,n5,n6,n7,n8,n9⟩:=vE m2 hi;simp only[ALt,Addr.mk.injEq,ATS]at n1;obtain⟨rfl,rfl⟩:=n1;subst PN;have hAp:A.Perm (G++(bb::R)++F2):=m3.trans (n8.append_right F2);obtain⟨Fs,hFs1,hFs2⟩:=hB3;have hbA:bb∈A:=hAp.mem_iff.2 (by simp);have bw: ¬E3.T bb:=hFs2.free bb (by simp[hbA]);have zB: ¬E3.S bb:=fun hc=>bw (hFs2.st bb hc)
 have nd:(Fx++(G++(bb::R)++F2)).Nodup:=(AWT Fx hAp).nodup_iff.1 (AM6.1 hFs2.nodup).2.1;have hnx:bb∉Fx:=fun hc=>(AM6.1 nd).2.2 bb hc bb (by simp) rfl
 have hnG:bb∉G:=fun hc=>(AM6.1 (AM6.1 (AM6.1 nd).2.1).1).2.2 bb hc bb (by simp) rfl
 have hnR:bb∉R:=(AWf.1 (AM6.1 (AM6.1 (AM6.1 nd).2.1).1).2.1).1;have hn2:bb∉F2:=fun hc=>(AM6.1 (AM6.1 nd).2.1).2.2 bb (by simp) bb hc rfl
 have cX:j+v.cells.toList.length≤q.n:=by
  rcases hrow with⟨rfl,_,ho4⟩|⟨t,y,hc1,ho4,W8,_⟩
  ·rw[Xo ho4];omega
  ·rw[hc1]
   obtain⟨_,y0,hc0⟩:=Uk W8;grind[eO,List.getElem?_eq_some_iff]
 have da:o+i*q.n+j+v.cells.toList.length≤arr.size:=by omega
 let w':=w.setCells bb (o+i*q.n+j) v.cells.toList
 have dZ:∀c,c≠bb→w'.heap[c]? =w.heap[c]?:=fun c hc=>DP _ _ _ _ _ hc
 have sy:∀c,E3.S c→w'.heap[c]? =w.heap[c]?:=fun c hc=>dZ c (fun e=>zB (e▸hc))
 have hb':=Fj v.cells.toList (o+i*q.n+j) w bb arr ty fr n2;have Zl:∃dx G' D0,dx.length=q.n∧Bc w' bb (o+i*q.n) dx∧Ow w' E3.S m q dx aE G'∧(Fx++G).Perm (G'++D0):=by
  rcases hrow with⟨rfl,_,ho4⟩|⟨t,y,hc1,ho4,W8,_⟩
  ·refine⟨v.cells.toList,Fx,G,Xo ho4,Ny n2 da,Eb (fun c hc=>hle.S c hc) (fun c hc=>dZ c (fun e=>zB (e▸hle.S c hc))) (fun c hc=>dZ c (fun e=>hnx (e▸hc))) ho4,AXr _⟩
  ·obtain⟨_,y0,hc0⟩:=Uk W8
   obtain⟨u,K1,K2,z1,z2,z3,z4⟩:=eO n7 hc0;have AYG:bb∉K2:=fun hc=>hnG (z3.mem_iff.2 (by simp[hc]))
   obtain⟨F',f1,f2⟩:=z4 w' E3.S v y Fx aE (fun _ hc=>hc) sy (fun c hc=>dZ c (fun e=>AYG (e▸hc)))
    (Eb (fun c hc=>hle.S c hc) (fun c hc=>dZ c (fun e=>zB (e▸hle.S c hc))) (fun c hc=>dZ c (fun e=>hnx (e▸hc))) ho4) W8
   refine⟨cs.set j v,F',K1,by simp_all,fun x u' hx=> ?_,f2,?_⟩
   ·rw[List.getElem?_set]at hx
    split at hx
    ·rename_i ejx
     subst ejx;split at hx
     ·cases hx
      have:=Ny (w:=w) (b:=bb) (o:=o+i*q.n+j) (vs:=v.cells.toList) n2 da 0 v (by simp_all);omega
     simp_all
    ·rename_i ejx
     have hold:=n6 x u' hx;rw[Kl n2]at hold;rw[Kl hb',Vp da,ALo (fun hh=>by grind),hold]
   grind
 obtain⟨dx,G',D0,c1,c2,c3,c4⟩:=Zl;obtain⟨nn,f1,f2⟩:=n9 w' E3.S (FJ arr (o+i*q.n+j) v.cells.toList) dx aE G' (fun _ hc=>hc) sy (fun c hc=>dZ c (fun e=>hnR (e▸hc))) hb' (Fh _ _ _) (fun k hk=>by
  rw[Vp da,ALo (by omega)]) c1 c2 c3
 obtain⟨F',f3,f4⟩:=m4 w' E3.S (ys.set i aE) nn C1 (fun _ hc=>hc) sy (fun c hc=>dZ c (fun e=>hn2 (e▸hc))) f2 e2;have ql:(Fx++A).Perm (F'++D0):=by
  have p1:F'.Perm (G'++(bb::R)++F2):=f3.trans (f1.append_right F2);refine(AWT Fx hAp).trans (List.Perm.trans ?_ (p1.symm.append_right D0));grind
 have Aeq:bb∈F':=(f3.trans (f1.append_right F2)).mem_iff.2 (by simp);have hB4:DD E3 w σ.bx aU F':=by
  have:DD E3 w σ.bx aU (F'++D0):=DD.perm (G:=Fx++A) ⟨Fs,hFs1,hFs2⟩ ql;exact this.drop
 have oQ:aU.length=σ.bx.length:=by rw[k1.len];simp
 have AUZ:aU[b]? =some .dead:=by
  obtain⟨B,hB⟩:∃B,aU[b]? =some B:=⟨_,ALR (by omega)⟩;rcases k1.within b B hB with e|e
  all_goals simp_all
 have hrl:C1.length=rows.length:=oW hg (by simp) e2;have kT:∀E0,Le E0 E3→HE E0 w σ.bx σ.bx [] E3 aU (Fx++A):=fun E0 hl=>⟨hl,oQ,fun n B hn=>by
  rcases k1.within n B hn with e|e
  all_goals grind,⟨Fs,hFs1,by simp_all⟩⟩
 have mj:∀n,E3.H3 n=E.H3 n:=fun n=>by rw[qW.H3]
 have hww:∀c,c<w.heap.size→c∉Fx++A→w'.heap[c]? =w.heap[c]?:=fun c _ hc=>dZ c (fun e=>hc (by simp_all))
 have base:d_ E w E3 w':=⟨qW.T,qW.S,qW.Tof,qW.Sof,fun c hc=>dZ c (fun e=>bw (e▸qW.T c hc)),(CC _ _ _ _).os,(CC _ _ _ _).tape,(CC _ _ _ _).output,(CC _ _ _ _).size⟩;have finish:∀(f:AV→AV) (g:XV→XV),(∀E0,Le E0 E3→(∀c,E0.S c→E0.T c)→ ∀x v,VR E0 w σ.bx x v→VR E3 w' ((aU.map (Bx.map f)).set b (.sl (m+1+p.length) r C1)) (f x) v)→
   (∀x v,XR E w σ.bx x v→XR E3 w' ((aU.map (Bx.map f)).set b (.sl (m+1+p.length) r C1)) (g x) v)→
   Rel E3 { tm:=σ.tm.map g,bx:=(aU.map (Bx.map f)).set b (.sl (m+1+p.length) r C1) } a w':=by
  intro f g hf hg;refine⟨h.NO,Ca.K4 _ hg h.tm,?_⟩;have hT:=hB4.AWq (E':=E3) (w':=w') (vw':=(aU.map (Bx.map f)).set b (.sl (m+1+p.length) r C1)) f (hf E3 (Le.refl _) hFs2.st) (fun _ h=>h) (fun _ _=>rfl) (fun _ _=>rfl) (fun c hc _=>dZ c (fun e=>by
    simp_all)) (fun F hF=>⟨hF.nodup,hF.free,fun c hc=>by rw[Dc];exact hF.lt c hc,hF.st,fun c hc=>by rw[Dc];exact hF.cf c hc⟩)
  refine DD.put (F:=F') (G:=[]) (by simp_all) (by rw[AQt,AUZ];rfl) ⟨by omega,?_⟩;simp_all
 have AXT:∀f:AV→AV,RJ [b] E σ.bx w E3 ((aU.map (Bx.map f)).set b (.sl (m+1+p.length) r C1)) w':=fun f=>⟨base,by simp[oQ],fun n _=>⟨by rw[qW.H0],mj n⟩,fun n hn=>by
  have qu:n≠b:=fun e=>by simp_all
  have wC:=(AMG.1 hn).1;rw[ASj (fun e=>qu e.symm),AQt];obtain⟨B,hB⟩:∃B,aU[n]? =some B:=⟨_,ALR (by omega)⟩;have hBd:B= .dead:=by
   rcases(kT E qW).within n B hB with e|e
   all_goals simp_all
  rw[hB,hBd];rfl,fun n B B' qu hB TV qt=>by
  simp at qu;have wC:=(AMG.1 hB).1;rw[ASj (fun e=>qu e.symm),AQt]at TV;obtain⟨B2,Xr⟩:∃B2,aU[n]? =some B2:=⟨_,ALR (by omega)⟩;rw[Xr]at TV;have TV:Bx.map f B2=B':=by simp_all
  have hBB:B2=B:=by
   rcases(kT E qW).within n B2 Xr with e|e
   ·subst e;exact absurd TV.symm qt
   simp_all
  subst hBB;refine⟨?_,fun c hc=>dZ c (fun e=> ?_)⟩
  ·subst TV
   cases B2 with
   |mem cs=>trivial
   |sl d r rows=>rfl
   |dead=>exact absurd rfl qt
  ·have hF:Fs[n]? =some (Fs[n]'(by have:=(AMG.1 Xr).1;rw[hFs1.1];omega)):=ALR _
   have Zf:xy E3 w n B2 c:=by
    cases B2 with
    |mem cs=>simp only[xy]at hc⊢;rw[qW.H0];omega
    |sl d r rows=>grind[xy]
    |dead=>exact hc
   rcases eU (hFs1.2 n B2 _ Xr hF) Zf with hs|hs
   ·simp_all
   ·exact(AM6.1 hFs2.nodup).2.2 c (ASW.2 ⟨_,ANe hF,hs⟩) bb (by simp[hbA]) e⟩
 refine⟨bb,o+i*q.n+j,E3,rfl,Uc (k:=0) n2 da n3,?_,?_,?_⟩
 ·split at e3
  ·rename_i Aar
   have h0:∀E0,Le E0 E3→(∀c,E0.S c→E0.T c)→Sh E0 w σ.bx E3 w' (aU.set b (.sl (m+1+p.length) r C1)):=by
    intro E0 hl st0;refine bK b (kT E0 hl) st0 (by simp[oQ]) (fun n d r rows hn _ hq=>by
      grind) (fun _ _=>rfl) (fun _ _=>rfl) rfl rfl hww (fun d0 r0 Rt hq=> ?_)
    rw[ATe (by omega)]at hq;simp only[ALt,Bx.sl.injEq]at hq;obtain⟨rfl,rfl,hq⟩:=hq;obtain rfl:=AQj hq;refine⟨d,rows,hb,fun p' hp' q' zs xr=> ?_⟩;rcases hrow with⟨_,hpf,_⟩|⟨t,y,hc1,ho4,W8,hsc⟩
    ·simp_all
    obtain⟨hs1,hs2⟩:=hsc Aar;have hk:=l3 hs1 hp hg hi W8 e2 hp' q' zs xr;refine⟨hk.1,hk.2,fun hh hhe=> ?_⟩;rw[mj];rw[←hl.H3,mj]at hhe;refine sA (fun Ad=> ?_) (Xh f4) hk.1 hhe;by_cases eA:Ad.block=bb∧Ad.spot=none∧Ad.off=o+i*q.n+j
    ·right
     obtain⟨ab,ao,asp⟩:=Ad;simp only at eA;rw[eA.1,eA.2.1,eA.2.2];refine⟨v,?_,hs2⟩;have:=Ny (w:=w) (b:=bb) (o:=o+i*q.n+j) (vs:=v.cells.toList) n2 da 0 v (by simp_all);omega
    grind[World.cell?_setCells_out,List.length_cons,List.length_nil]
   have:=finish id id (fun E0 hl st0 x v hx=>by rw[Z9];grind[GM]) (fun x v hx=>by rw[Z9];grind[PK]);grind[Z9,List.map_id]
  ·have h0:∀E0,Le E0 E3→(∀c,E0.S c→E0.T c)→ ∀x v,VR E0 w σ.bx x v→VR E3 w' ((aU.map (Bx.map (Jm b))).set b (.sl (m+1+p.length) r C1)) (Jm b x) v:=by
    intro E0 hl st0 x v hx;have keep:Sh E0 w σ.bx E3 w' (((aU.map (Bx.map (Jm b))).set b (.sl (m+1+p.length) r C1)).set b .dead):=by
     refine bK b (kT E0 hl) st0 (by simp[oQ]) (fun n d r rows hn _ hq=>by
      grind[List.getElem?_set_ne,AEr]) (fun _ _=>rfl) (fun _ _=>rfl) rfl rfl hww (fun d0 r0 Rt hq=> ?_)
     simp_all
    exact AFU keep hb (by rw[ATe (by simp_all)]) hrl (by rw[hl.H3]) hx
   have:=finish (Jm b) (vA b) h0 (fun x v hx=>AEy (h0 E qW st) hx);grind[St.AAB,mB,oR]
 ·rw[←e3]
  split
  all_goals grind[id,Z9,St.AAB,mB,oR]
 grind[St.AAB]
end Go.Fw
end
section
namespace Go.Fw
theorem eI{w w':World}{B B':Nat→Prop}:∀{r:Ty} {cs:List Value} {x:r.D},r.flat=true→Rd w B r cs x→Rd w' B' r cs x
 | .cons c r,cs,x,h,hr=>by
  simp only[Ty.flat,AMC]at h;simp only[Rd]at hr⊢;obtain⟨v,l,rfl,h1,h2⟩:=hr;exact⟨v,l,rfl,eI h.1 h1,eI h.2 h2⟩
 | .unit,_,_,_,hr=>by grind[Rd]
 | .int k,_,_,_,hr=>by grind[Rd]
 | .bool,_,_,_,hr=>by grind[Rd]
 | .str,_,_,_,hr=>by grind[Rd]
 | .sl q,_,_,h,_=>by simp[Ty.flat]at h
theorem dF{w:World}{S:Nat→Prop}{d:Nat}:∀{r:Ty} {cs:List Value} {y:r.D} {F:ABJ},r.flat=true→Ow w S d r cs y F→F=[]
 | .int k,_,_,_,_,h=>by grind[Ow]
 | .bool,_,_,_,_,h=>by grind[Ow]
 | .str,_,_,_,_,h=>by grind[Ow]
 | .unit,_,_,_,_,h=>by grind[Ow]
 | .cons c r,_,_,_,hf,h=>by
  simp only[Ty.flat,AMC]at hf;simp only[Ow]at h;obtain⟨v,l,F1,F2,_,rfl,h1,h2⟩:=h;rw[dF hf.1 h1,dF hf.2 h2];rfl
 | .sl q,_,_,_,hf,_=>by simp[Ty.flat]at hf
theorem wL{w w':World}{S S':Nat→Prop}{d d':Nat}{r:Ty}(hr:r.flat=true){cs:List Value}{y:r.D}{F:ABJ}(h:Ow w S d r cs y F):F=[]∧cs.length=r.n∧Ow w' S' d' r cs y []:=
 ⟨dF hr h,Xo h,iJ hr (eI (B':=fun _=>False) hr (Xh h))⟩
theorem jD:∀{r:Ty} {j:Nat} {x:r.D} {t:Ty} {y:t.D},r.flat=true→BO r j x=some ⟨t,y⟩→t.flat=true
 | .cons c r,0,x,t,y,h,e=>by
  simp only[Ty.flat,AMC]at h;simp only[BO,ALt,AM4]at e;simp_all
 | .cons c r,j+1,x,t,y,h,e=>by
  simp only[Ty.flat,AMC]at h;simp only[BO]at e;exact jD h.2 e
 | .unit,_,_,_,_,_,e=>by simp[BO]at e
 | .int k,0,x,t,y,_,e=>by simp only[BO,ALt,AM4]at e;simp_all
 | .bool,0,x,t,y,_,e=>by simp only[BO,ALt,AM4]at e;simp_all
 | .str,0,x,t,y,_,e=>by simp only[BO,ALt,AM4]at e;simp_all
 | .sl _,_,_,_,_,h,_=>by simp[Ty.flat]at h
 | .int _,_+1,_,_,_,_,e=>by simp[BO]at e
 | .bool,_+1,_,_,_,_,e=>by simp[BO]at e
 | .str,_+1,_,_,_,_,e=>by simp[BO]at e
theorem ABz{r:Ty}(hr:r.flat=true){rows:List r.D}:∀{p:List WR},DF r rows p→p=[]
 |[],_=>rfl
 |s::p,h=>by
  simp only[DF]at h;obtain⟨_,_,h⟩:=h;exfalso;cases hc:BO r s.j (rowAt r rows s.i)with
  |none=>simp_all
  |some tx=>
   obtain⟨t,x⟩:=tx;have hf:=jD hr hc;grind[Ty.flat]
theorem flatten_nil{l:List ABJ}(h:∀x∈l,x=[]):l.flatten=[]:=by
 simp_all;omega
theorem AB1{E:Env}{σ:St}{a:Act}{w:World}(h:Rel E σ a w){b d off n:Nat}{r:Ty}{rows:List r.D}(hb:σ.bx[b]? =some (.sl d r rows))(hr:r.flat=true)(hgd:r.ta=true)(hk:0<r.n)(hl:off+n≤rows.length)(hn:0<n):
  ∃bb o cap,E.H3 b= .slice (some ⟨bb,o,none⟩) rows.length cap∧rows.length≤cap∧w.there bb (o+off*r.n) (n*r.n)∧
   Rel E { σ with bx:=σ.bx.set b (.sl d r ((rows.take off++List.replicate n r.z)++rows.drop (off+n))) } a (w.setCells bb (o+off*r.n) (List.replicate n (Et r)).flatten)∧
   RJ [b] E σ.bx w E (σ.bx.set b (.sl d r ((rows.take off++List.replicate n r.z)++rows.drop (off+n)))) (w.setCells bb (o+off*r.n) (List.replicate n (Et r)).flatten):=by
 have st:=h.bx.st;obtain⟨F,⟨hd,ho⟩,hB⟩:=h.bx.take hb;simp only[AM3]at hB;have Lu:=(AMG.1 hb).1;obtain⟨d',rfl⟩:∃m,d=m+1:=⟨d-1,by omega⟩;simp only[Ow]at ho;obtain⟨ad,cap,hh,yO,ho⟩:=ho;simp only[AQY,ATS]at hh;rcases ho with⟨rfl,_⟩|⟨bb,o,arr,ty,fr,Fs,rfl,ha,PN,hu,rfl,hFl,cR⟩
 ·omega
 have hFn:List.flatten Fs=[]:=flatten_nil fun x hx=>by
  obtain⟨i,hi,hxi⟩:=AQQ hx;obtain⟨cs,_,_,h3⟩:=cR i (rows[i]'(by omega)) x (ALR _) (by grind);exact(wL (w':=w) (S':=E.S) (d':=0) hr h3).1
 rw[hFn]at hB;have hzl:(Et r).length=r.n:=Gw r;have hvl:((List.replicate n (Et r)).flatten).length=n*r.n:=by simp_all
 have hm1:(off+n)*r.n≤cap*r.n:=AOi _ (by omega);have hm2:(off+n)*r.n=off*r.n+n*r.n:=ATm ..;have da:o+off*r.n+((List.replicate n (Et r)).flatten).length≤arr.size:=by omega
 generalize VO:(List.replicate n (Et r)).flatten=vs at hvl da
 refine⟨bb,o,cap,hh,yO,Uc ha (by omega) hu,?_⟩;have bw: ¬E.T bb:=hB.AEG _ (by simp);have hB0:=hB;have dZ:∀c,c≠bb→(w.setCells bb (o+off*r.n) vs).heap[c]? =w.heap[c]?:=fun c hc=>DP _ _ _ _ _ hc
 have hw:∀c,c<w.heap.size→c∉[bb]→(w.setCells bb (o+off*r.n) vs).heap[c]? =w.heap[c]?:=fun c _ hc=>dZ c (by simp_all)
 have kT:HE E w σ.bx σ.bx [] E (σ.bx.set b .dead) [bb]:=⟨Le.refl _,by simp,fun n B hn=>by
  grind,by simp_all⟩
 generalize AQc:(rows.take off++List.replicate n r.z)++rows.drop (off+n)=C1
 have AVr:C1.length=rows.length:=by
  grind
 have keep:Sh E w σ.bx E (w.setCells bb (o+off*r.n) vs) (σ.bx.set b (.sl (d'+1) r C1)):=bK b kT st (by simp) (fun n d r rows hn _ hq=>by
   grind) (fun _ _=>rfl) (fun _ _=>rfl) rfl rfl hw (fun d1 r1 AMl hq=>by
   rw[ATe Lu]at hq;simp only[ALt,Bx.sl.injEq]at hq;obtain⟨rfl,rfl,hq⟩:=hq;obtain rfl:=AQj hq;refine⟨d'+1,rows,hb,fun p hp q ys hg=> ?_⟩;obtain rfl:=ABz hr hp;simp only[G_,ALt,AM4]at hg;obtain⟨rfl,hg⟩:=hg;obtain rfl:=AQj hg;exact⟨by simp[DF],⟨C1,by rfl,AVr⟩,fun h' hh' =>hh'⟩)
 refine⟨⟨h.NO,h.tm.imp fun _ _ hq=>PK keep hq,?_⟩,⟨⟨fun _ h=>h,fun _ h=>h,fun _ h=> .inl h,fun _ h=> .inl h,fun c hc=>dZ c (fun e=>bw (e▸hc)),(CC _ _ _ _).os,(CC _ _ _ _).tape,(CC _ _ _ _).output,(CC _ _ _ _).size⟩,by simp,fun _ _=>⟨rfl,rfl⟩,fun n hn=>by
  grind,fun n B B' qu hB TV qt=>by
  simp at qu;rw[ASj (fun e=>qu e.symm),hB]at TV;cases TV;refine⟨U5.refl qt,fun c hc=>dZ c (fun e=> ?_)⟩;obtain⟨Fs,⟨f1,f2⟩,f3⟩:=hB0;have Xr:(σ.bx.set b .dead)[n]? =some B:=by grind
  have hF:Fs[n]? =some (Fs[n]'(by grind)):=ALR _;rcases eU (f2 n B _ Xr hF) hc with hs|hs
  ·simp_all
  ·exact(AM6.1 f3.nodup).2.2 c (ASW.2 ⟨_,ANe hF,hs⟩) bb (by simp) e⟩⟩
 have hT:=hB.turn (E':=E) (w':=w.setCells bb (o+off*r.n) vs) (vw':=σ.bx.set b (.sl (d'+1) r C1)) (fun x v hq=>GM keep hq) (fun _ h=>h) (fun _ _=>rfl) (fun _ _=>rfl) (fun c hc _=>dZ c (fun e=>by
   simp_all)) (fun F hF=>⟨hF.nodup,hF.free,fun c hc=>by rw[Dc];exact hF.lt c hc,hF.st,fun c hc=>by rw[Dc];exact hF.cf c hc⟩)
 have ADX:py E (w.setCells bb (o+off*r.n) vs) (σ.bx.set b (.sl (d'+1) r C1)) b (.sl (d'+1) r C1) [bb]:=by
  refine⟨hd,?_⟩;simp only[Ow];refine⟨_,cap,by simp_all,by omega,.inr ⟨bb,o,FJ arr (o+off*r.n) vs,ty,fr,List.replicate C1.length [],rfl,Fj _ _ _ _ _ _ _ ha,by rw[Fh];omega,by rw[Fh];omega,by simp,by simp,fun i y G hy hG=> ?_⟩⟩;have hG':G=[]:=ATo (ANe hG);subst hG';have hil:i<rows.length:=by grind
  by_cases PY:off≤i∧i<off+n
  ·have hyz:y=r.z:=by
    grind
   subst hyz;refine⟨Et r,hzl,fun j v hj=> ?_,eD hgd⟩;have qq:j<r.n:=by grind
   have e1:(i-off)*r.n=i*r.n-off*r.n:=AVk ..;have e2:off*r.n≤i*r.n:=AOi _ PY.1;have e3:(i-off+1)*r.n≤n*r.n:=AOi _ (by omega);rw[ATm,Nat.one_mul]at e3;have:=Ny ha da ((i-off)*r.n+j) v (by
    grind[NM,Nat.mul_comm,Nat.mul_add_mod,Nat.mod_eq_of_lt])
   grind
  ·have hyo:rows[i]? =some y:=by
    rw[←AQc]at hy;by_cases h1:i<off
    ·grind
    grind[List.getElem?_append_right]
   obtain⟨cs,c1,c2,c3⟩:=cR i y (Fs[i]'(by omega)) hyo (ALR _);obtain⟨_,c4,c5⟩:=wL (w':=w.setCells bb (o+off*r.n) vs) (S':=E.S) (d':=d') hr c3;refine⟨cs,c4,UA c2 ha da (.inr ?_),c5⟩;by_cases h1:i<off
   ·have:(i+1)*r.n≤off*r.n:=AOi _ h1
    grind
   grind
 have:=DD.put (b:=b) (B:= .sl (d'+1) r C1) (F:=[bb]) (G:=[]) (by simpa using hT) (by simp_all) ADX;simp_all
section
variable{Y:Type} {P:Program} {T:Jp} (hT:Em P T) {o:Oper} {E:Env} {σ:St} {a:Act} {w:World} {k:K Y} {y:Y}
include hT
theorem zS(h:Rel E σ a w){c:Call}{x:XV}(ho:o.op= .call c)(hc:c.callee= .builtin .clear)(IQ:c.args.toList.map σ.ev=[x])(e:lD T c.argTypes σ x k=some y)
  (AaG:∀b p off n,x= .c (.win b p off n)→KS (fun _=>none) σ o.op=[b]):∃v w' E' xv σ',((execOp a.eval o).run P w= .ok (.value v) w'∨((execOp a.eval o).run P w= .ok .skip w'∧v=undef))∧Rel E' σ' a w'∧XR E' w' σ'.bx xv v∧
   RJ (KS (fun _=>none) σ o.op) E σ.bx w E' σ'.bx w'∧σ'.tm.length=σ.tm.length∧k xv σ' =some y:=by
 obtain⟨o1,hargs',rfl⟩:=Wm IQ;have bf:=h.ev o1;unfold lD at e;split at e
 case h_2=>cases e
 rename_i t b off n ht hx;rw[hx]at bf;rw[AaG b [] off n hx];split at e
 case h_2=>cases e
 rename_i d r rows hb;split at e
 case isFalse=>cases e
 rename_i UR;rw[AMC]at UR;obtain⟨UR,hr⟩:=UR;rw[AMC,AMi]at hr;obtain⟨hr,hk⟩:=hr;obtain⟨el,ti,hu,Uv,hs,hby,hrow⟩:=KX hT UR;obtain⟨i,z,i1,i2,i3,i4,i5,hg⟩:=WU hT Uv hrow;have Z7:VR E w σ.bx (.win b [] off n) (a.eval o1):=bf;simp only[VR,hb]at Z7;obtain⟨_,_,q,ys,ad,len,cap,hgp,hl,hh,hv⟩:=Z7;simp only[G_,ALt,AM4]at hgp;obtain⟨rfl,hgp⟩:=hgp;obtain rfl:=AQj hgp;simp only[Iw,ALt]at hh;by_cases hn:n=0
 ·subst hn
  have AT6:(rows.take off++List.replicate 0 r.z)++rows.drop (off+0)=rows:=by simp
  rw[AT6]at e;have W8:σ.bx.set b (.sl d r rows)=σ.bx:=by
   apply AVM;grind
  rw[W8]at e;refine⟨.tuple #[],w,E,.c .undef,σ,.inl ?_,h,trivial,RJ.refl _ _ _ _,rfl,e⟩;have hz:∃a' c',a.eval o1= .slice a' 0 c':=⟨_,_,by rw[hv];rfl⟩;obtain⟨a',c',hz⟩:=hz;simp only[execOp,ho,resolve,hc,hargs',invoke,builtin,Sem.run_bind,Sem.run_pure,Result.andThen_ok,List.map_toArray,AUm,AXU,Builtin.clear_,ht,hz];cases a'<;>simp[Ba hu]
 ·obtain⟨bb,oo,cap',g1,g2,g3,g4,g5⟩:=AB1 h (d:=d) hb hr hg hk hl (by omega)
  rw[g1]at hh;simp only[Value.slice.injEq]at hh;obtain⟨rfl,rfl,rfl⟩:=hh;have YQ:a.eval o1= .slice (some ⟨bb,oo+off*r.n,none⟩) n (cap'-off):=by
   rw[hv];unfold U4;rw[ALo (by omega)];simp[Addr.add]
  refine⟨.tuple #[],_,E,.c .undef,_,.inl ?_,g4,trivial,g5,rfl,e⟩;have hz:(Builtin.zeroCells z.cells n).toList=(List.replicate n (Et r)).flatten:=by
   grind[Builtin.zeroCells,Et,V5,Gw]
  have h1:∀v∈(List.replicate n (Et r)).flatten,v.oneCell' =true:=fun v hv=>by
   obtain⟨l,hl1,xz⟩:=ASW.1 hv;rw[ATo hl1]at xz;exact ka (w:=w) (S:=E.S) (d:=0) (eD hg) v xz
  have hvl:((List.replicate n (Et r)).flatten).length=n*r.n:=by rw[HD,Gw]
  have fO:=run_storeCells_cells (P:=P) bb (oo+off*r.n) (List.replicate n (Et r)).flatten 0 w (fun j hj=>by simpa using(g3 j (by omega)).1) (fun j hj=>by simpa using(g3 j (by omega)).2) h1;rw[ATu]at fO;obtain⟨n',rfl⟩:∃n',n=n'+1:=⟨n-1,by omega⟩;simp only[execOp,ho,resolve,hc,hargs',invoke,builtin,Sem.run_bind,Sem.run_pure,Result.andThen_ok,List.map_toArray,AUm,AXU,Builtin.clear_,ht,YQ];simp[Ba hu,zeroValue,typeInfo,i1,i4,hz,fO]
end
end Go.Fw
end
section
namespace Go.Fw
theorem pL{E:Env}{w:World}{vw:List Bx}:∀{l:List XV} {bs:ABJ} {vs:List Value},xQ l=some bs→Ca (XR E w vw) l vs→(∀b∈bs,b<vw.length)∧vs=bs.map fun b=>Value.pointer (some ⟨E.H0 b,0,none⟩)
 |[],bs,vs,e,h=>by
  simp only[xQ,ALt]at e;subst e;cases vs with
  |nil=>simp_all
  |cons _ _=>exact h.elim
 |x::l,bs,vs,e,h=>by
  unfold xQ at e;split at e
  ·simp_all
  ·rename_i b l' heq
   cases heq;simp only[AL9]at e;obtain⟨r,e1,rfl⟩:=e;cases vs with
   |nil=>exact h.elim
   |cons v vs=>
    obtain⟨h1,h2⟩:=h;obtain⟨k1,k2⟩:=pL e1 h2;obtain⟨h3,h4⟩:b<vw.length∧v= .pointer (some ⟨E.H0 b,0,none⟩):=h1;simp_all
  simp_all
theorem evs{E:Env}{σ:St}{a:Act}{w:World}(h:Rel E σ a w):∀l:List Operand,Ca (XR E w σ.bx) (l.map σ.ev) (l.map a.eval)
 |[]=>trivial
 |x::l=>⟨h.ev x,evs h l⟩
theorem AAP{E:Env}{σ:St}{a:Act}{w:World}(h:Rel E σ a w):∀o:Option Operand,OR E w σ.bx (o.map σ.ev) (o.map a.eval)
 |none=>trivial
 |some x=>h.ev x
theorem xp{w:World}{S:Nat→Prop}:∀{p:List WR} {d:Nat} {r:Ty} {h:Value} {rows:List r.D} {F:ABJ} {q:Ty} {ys:List q.D} {v:Value},Ow w S d (.sl r) [h] rows F→DF r rows p→
  G_ r rows p=some ⟨q,ys⟩→d≤p.length→Iw w h p=some v→Rd w S (.sl q) [v] ys
 |p,0,r,h,rows,F,q,ys,v,ho,hp,hg,_,hv=>by
  simp only[Ow]at ho;obtain⟨h',k,hr⟩:=ng ho.1 hp hg;simp_all
 |[],d+1,r,h,rows,F,q,ys,v,ho,hp,hg,hd,hv=>by simp_all
 |s::p,d+1,r,h,rows,F,q,ys,v,ho,hp,hg,hd,hv=>by
  simp only[DF]at hp;obtain⟨hi,PN,hp⟩:=hp;simp only[G_]at hg;obtain⟨a,len,cap,rfl⟩:∃a len cap,h= .slice a len cap:=by
   have:=ho;simp only[Ow]at this;grind
  split at hg
  case h_2=>cases hg
  rename_i q' x' iG;rw[iG]at hp;obtain⟨b,o,arr,ty,fr,cs,G,R,rfl,hb,hu,hbd,c1,c2,c3,ql,hback⟩:=vE ho hi;obtain⟨u,A1,A2,k1,k2,k3,k4⟩:=eO c3 iG;simp only[Iw]at hv;rw[PN,c2 _ _ k1]at hv;exact xp k2 hp hg (by simp_all) hv
theorem yI{E:Env}{σ:St}{a:Act}{w:World}(h:Rel E σ a w){b i sz j:Nat}{p:List WR}{va v:Value}(hva:VR E w σ.bx (.JK b p i sz j) va){x:XV}(hv:XR E w σ.bx x v)(h1c:∀u∈v.cells.toList,u.oneCell' =true)
  {σ':St} (e:LX σ (.c (.JK b p i sz j)) x=some σ'):
  ∃bb oo E',va= .pointer (some ⟨bb,oo,none⟩)∧w.there bb oo v.cells.toList.length∧Rel E' σ' a (w.setCells bb oo v.cells.toList)∧RJ [b] E σ.bx w E' σ'.bx (w.setCells bb oo v.cells.toList)∧σ'.tm.length=σ.tm.length:=by
 unfold LX aB at e;split at e
 ·rename_i b0 _ _ _ _ b' s p' off n heq
  cases heq;split at e
  case isFalse=>cases e
  rename_i hbb;subst hbb;split at e
  case h_2=>cases e
  rename_i d r rows hb;simp only[AMR,AL9]at e;obtain⟨q,⟨⟨q0,ys⟩,hg,rfl⟩,e⟩:=e;dsimp only at e;have Lu:=(AMG.1 hb).1;obtain⟨F,⟨hd1,ho⟩,hB⟩:=h.bx.take hb;obtain⟨A,W,pF,ho2⟩:=J9 (d:=min d (p'.length+1)) (by omega) ho;have Xr:=hB.perm (G':=A++W++[]) (by simp_all);obtain⟨hle,hB3⟩:=Xr.share
  generalize hE1:({ E with S:=fun c=>E.S c∨c∈W,T:=fun c=>E.T c∨c∈W }:Env)=E1 at hle hB3
  have ho3:Ow w E1.S (min d (p'.length+1)) (.sl r) [E1.H3 b'] rows A:=by
   rw[hle.H3];grind
  have hB4:=hB3.put (b:=b') (B:= .sl (min d (p'.length+1)) r rows) (by simp_all) ⟨by omega,ho3⟩;rw[AXp]at hB4;have hk:Sh E w σ.bx E1 w (σ.bx.set b' (.sl (min d (p'.length+1)) r rows)):=by
   refine⟨by simp,fun _ _=>by rw[hle.H0],hle.T,hle.S,h.bx.st,fun _ _=>rfl,fun c d' r' C1 hc e=> ?_⟩;by_cases hcb:b' =c
   ·subst hcb
    rw[ATe Lu]at e;simp only[ALt,Bx.sl.injEq]at e;obtain⟨rfl,rfl,e⟩:=e;obtain rfl:=AQj e;exact⟨d,rows,hb,fun p hp q ys hg=>⟨hp,⟨ys,hg,rfl⟩,fun h' hh=>by rw[hle.H3];omega⟩⟩
   ·rw[ASj hcb]at e
    exact⟨d',C1,e,fun p hp q ys hg=>⟨hp,⟨ys,hg,rfl⟩,fun h' hh=>by rw[hle.H3];omega⟩⟩
  have bf:VR E w σ.bx (.win b' (s::p') off n) v:=hv;have Z7:XR E1 w (σ.bx.set b' (.sl (min d (p'.length+1)) r rows)) (.c (.sl true q0 ((ys.drop off).take n))) v:=by
   simp only[VR,hb]at bf;obtain⟨_,hp,q1,ys1,a1,len,cap,g1,g2,g3,rfl⟩:=bf;rw[hg]at g1;simp only[ALt,AM4]at g1;obtain⟨rfl,g1⟩:=g1;obtain rfl:=AQj g1;have:=xp ho3 hp hg (by grind) (by rw[hle.H3];omega);exact zW this g2
  have hr:Rel E1 { σ with bx:=σ.bx.set b' (.sl (min d (p'.length+1)) r rows) } a w:=
   ⟨h.NO,h.tm.imp fun _ _ hx=>PK hk hx,hB4.turn (E':=E1) (w':=w) (fun _ _ hv=>GM ⟨by simp,fun _ _=>rfl,fun _ h=>h,fun _ h=>h,hB3.st,fun _ _=>rfl,fun c d' r' C1 hc e=>by
    grind⟩ hv) (fun _ h=>h) (fun _ _=>rfl) (fun _ _=>rfl) (fun _ _ _=>rfl) fun F hF=>hF⟩
  obtain⟨bb,oo,E',q1,q2,q3,q4,q5⟩:=sb hr (GM hk hva) Z7 h1c e;refine⟨bb,oo,E',q1,q2,q3,⟨(hle.base w).trans q4.base,by simpa using q4.len,fun c hc=> ?_,fun c hc=> ?_,fun c B B' hct hB TV hd=> ?_⟩,q5⟩
  ·have:=q4.ids c (by simp_all)
   exact⟨this.1.trans (by rw[hle.H0]),this.2.trans (by rw[hle.H3])⟩
  ·refine q4.dead c ?_
   grind
  ·have hcb:b'≠c:=fun e=>hct (by simp[e])
   obtain⟨f1,f2⟩:=q4.frame c B B' hct (by simp_all) TV hd;refine⟨f1,fun c' Zf=>f2 c' ?_⟩;cases B with
   |mem cs=>exact Zf.trans (by rw[hle.H0])
   |sl d0 r0 Rt=>simp only[xy]at Zf⊢;rw[hle.H3];omega
   |dead=>exact Zf
 grind[sb]
def o3:Op→Bool
 | .call { callee:= .value _,.. }=>true
 |_=>false
section
variable{Y:Type} {P:Program} {T:Jp} (hT:Em P T) {o:Oper} {E:Env} {σ:St} {a:Act} {w:World} {k:K Y} {y:Y}
include hT
theorem yj(h:Rel E σ a w){t:TypeId}{oa ox:Operand}(ho:o.op= .store t oa ox){ti:TI}(Uv:T.get t=some ti)
  (hc:(σ.ev ox).cells.length=ti.size∧ti.size≠0∧(σ.ev ox).cells.all AV.known=true) {σ':St} (hs:LX σ (σ.ev oa) (σ.ev ox)=some σ') (e:k (.c .undef) σ' =some y):LH P o E σ a w k y:=by
 obtain⟨c1,c2,c3⟩:=hc;have bd:(σ.ev ox).cells≠[]:=fun hh=>by simp_all
 obtain⟨VO,h1c⟩:=pM (h.ev ox) c3 bd;have hlen:(a.eval ox).cells.toList.length=ti.size:=by rw[←Ca.len VO];omega
 have hi:(P.info? t).map (·.size)=some (a.eval ox).cells.toList.length:=by grind[Em.size]
 have hva:=h.ev oa;have fin:∀{bb oo:Nat} {E':Env},a.eval oa= .pointer (some ⟨bb,oo,none⟩)→w.there bb oo (a.eval ox).cells.toList.length→Rel E' σ' a (w.setCells bb oo (a.eval ox).cells.toList)→
   RJ (KS (fun _=>none) σ o.op) E σ.bx w E' σ'.bx (w.setCells bb oo (a.eval ox).cells.toList)→σ'.tm.length=σ.tm.length→LH P o E σ a w k y:=by
  intro bb oo E' e1 e2 e3 e4 e5;have hr:=nQ (P:=P) e2 hi h1c;refine⟨undef,_,E',.c .undef,σ',.inr ⟨?_,rfl⟩,e3,trivial,e4,e5,e⟩;grind[execOp,Sem.run_bind,Result.andThen_ok,Sem.run_pure]
 generalize hxa:σ.ev oa=xa at hs hva
 cases xa with
 |agg l=>simp[LX,aB,gZ]at hs
 |Me l=>simp[LX,aB,gZ]at hs
 |c x=>
  cases x with
  |IL b j=>
   simp only[LX,aB,AM0,gZ]at hs;split at hs
   case h_2=>cases hs
   rename_i cs hb;simp only[AL9]at hs;obtain⟨dx,hs,rfl⟩:=hs;have Ab6:b<σ.bx.length∧a.eval oa= .pointer (some ⟨E.H0 b,j,none⟩):=hva;obtain⟨q1,q2,q3⟩:=AC9 h hb VO bd hs;exact fin Ab6.2 q1 q2 (by grind[KS]) rfl
  |JK b p i sz j=>
   obtain⟨bb,oo,E',q1,q2,q3,q4,q5⟩:=yI h hva (h.ev ox) h1c hs;grind[KS]
  |_=>simp[LX,aB,gZ]at hs
omit hT in
theorem xu(h:Rel E σ a w){x:Operand}(ho:o.op= .assign x)(e:bN σ (σ.ev x) k=some y):LH P o E σ a w k y:=by
 have hr:(execOp a.eval o).run P w= .ok (.value (a.eval x)) w:=by simp only[execOp,ho,Sem.run_pure]
 have hv:=h.ev x;unfold bN at e;split at e
 ·rename_i b off n hx
  rw[hx]at hv;simp only[AMR]at e;obtain⟨⟨r,rows,bx,d⟩,e1,e⟩:=e;dsimp only at e;have YQ:VR E w σ.bx (.win b [] off n) (a.eval x):=hv;obtain⟨hd,F1,F2,k1,ho1⟩:=fQ h.bx (FM.refl _) YQ e1;obtain⟨Fs0,hB1,Xr⟩:=k1.boxes;simp only[AM3]at Xr;have nd:=(AM6.1 (AM6.1 Xr.nodup).2.1).1;obtain⟨r1,r2,r3⟩:=TO h k1 (w':=w) hd ho1 (fun c hc=> .inl (AOl.2 (.inl hc))) nd (fun c hc=>Xr.lt c (by simp[hc])) (fun _ _ _=>rfl) ⟨rfl,rfl,rfl,AQE _⟩;exact⟨_,_,_,_,_,.inl hr,r1,r3,r2.any,rfl,e⟩
 ·exact LH.same h hr hv e
theorem AC3{Γ:Nat→Option QN}(h:Rel E σ a w)(e:Wz T Γ o σ k=some y)(r8:o3 o.op=false):LH P o E σ a w k y:=by
 have same:∀{v:Value} {x:XV},(execOp a.eval o).run P w= .ok (.value v) w→XR E w σ.bx x v→k x σ=some y→LH P o E σ a w k y:=fun h1 h2 h3=>LH.same h h1 h2 h3
 obtain⟨Fs,hB,hS⟩:=h.bx;have st:=hS.st;unfold Wz at e;split at e
 ·rename_i x ho
  exact same (v:=a.eval x) (by grind[execOp,Sem.run_pure]) (h.ev x) e
 ·grind[xu]
 ·rename_i c xa xb ho
  split at e
  case h_2=>cases e
  rename_i p hp;have hc:=h.ev c;rw[hp]at hc;have Zf:=SN (E:=E) (w:=w) (vw:=σ.bx) hc;refine same (v:=if p then a.eval xa else a.eval xb) (x:=if p then σ.ev xa else σ.ev xb) (by simp[execOp,ho,Zf,asBool]) (by cases p<;>simp[h.ev]) ?_
  grind[AFQ]
 ·grind[zH]
 ·grind[AFH]
 ·grind[yn]
 ·grind[mX]
 ·rename_i t x ho
  split at e
  case h_2=>cases e
  rename_i z hz;obtain⟨u,h1,h2⟩:=xS hT hB st hz (h.ev x);grind[execOp,Sem.run_bind,Result.andThen_ok,Sem.run_pure]
 ·grind[yj]
 ·rename_i x ho
  have hx:=h.ev x;split at e
  ·rename_i b j hp
   rw[hp]at hx;have ym:b<σ.bx.length∧a.eval x= .pointer (some ⟨E.H0 b,j,none⟩):=hx;grind[execOp,Sem.run_pure]
  ·rename_i b p i sz j hp
   rw[hp]at hx;have hpt:cC (a.eval x)=true:=hx.1;grind[cC,execOp,Sem.run_pure]
  ·rename_i s r z j hp
   rw[hp]at hx;obtain⟨bb,oo,cs,hv,hrest⟩:=hx;exact same (v:=a.eval x) (x:= .c (.PM s r z j)) (by grind[execOp,Sem.run_pure]) ⟨bb,oo,cs,hv,hrest⟩ e
  ·rename_i f KZ hp
   rw[hp]at hx;have ym:(∀b∈KZ,b<σ.bx.length)∧a.eval x= .func (.func f) #[] (KZ.map fun b=>Value.pointer (some ⟨E.H0 b,0,none⟩)).toArray:=hx;grind[execOp,Sem.run_pure]
  simp_all
 ·rename_i op t x z s ho
  obtain⟨r,val,h1,h2,h3⟩:=gz hT e (h.ev x) (h.ev z) x z;exact same (v:=val) (x:= .c r) (by
   simp only[execOp,ho,Sem.run_bind];simp_all) h3 h1
 ·rename_i op t x ho
  obtain⟨r,val,h1,h2,h3⟩:=kF (P:=P) e (h.ev x);exact same (v:=val) (x:= .c r) (by grind[execOp,Sem.run_bind,Result.andThen_ok,Sem.run_pure]) h3 h1
 ·grind[ABR]
 ·rename_i f first KZ ho
  split at e
  case isFalse=>cases e
  rename_i hf;split at e
  case h_2=>cases e
  rename_i bs hbs;obtain⟨q1,q2⟩:=pL hbs (evs h KZ.toList);have Aan:first.map a.eval= #[]:=by
   simp_all
  have AdN:KZ.map a.eval=(bs.map fun b=>Value.pointer (some ⟨E.H0 b,0,none⟩)).toArray:=by
   grind
  refine same (v:= .func (.func f) #[] (bs.map fun b=>Value.pointer (some ⟨E.H0 b,0,none⟩)).toArray) ?_ (x:= .c (.fn f bs)) ⟨q1,rfl⟩ e
  grind[execOp,Instr.makeFunc,Sem.run_bind,Sem.run_pure,Result.andThen_ok]
 ·grind[ABl]
 ·rename_i t x lo hi ho
  obtain⟨z,val,h1,h2,h3⟩:=iw hT hB st e (h.ev x) (AAP h lo) (AAP h hi);grind[execOp,Sem.run_bind,Result.andThen_ok,Sem.run_pure]
 ·rename_i t x f ho
  split at e
  case h_2=>cases e
  rename_i z hz;obtain⟨u,h1,h2⟩:=ie hT hz (h.ev x);grind[execOp,Sem.run_bind,Result.andThen_ok,Sem.run_pure]
 ·rename_i t x f ho
  split at e
  case h_2=>cases e
  rename_i z hz;obtain⟨u,h1,h2⟩:=l9 hT hz (h.ev x);grind[execOp,Sem.run_bind,Result.andThen_ok,Sem.run_pure]
 ·rename_i t x i ho
  obtain⟨z,val,h1,h2,h3⟩:=jn hT hB st e (h.ev x) (h.ev i);grind[execOp,Sem.run_bind,Result.andThen_ok,Sem.run_pure]
 ·rename_i t x i ho
  obtain⟨z,val,h1,h2,h3⟩:=bt hT e (h.ev x) (h.ev i);grind[execOp,Sem.run_bind,Result.andThen_ok,Sem.run_pure]
 ·rename_i x i ho
  split at e
  case h_2=>cases e
  rename_i z hz;obtain⟨u,h1,h2⟩:=dz (P:=P) hz (h.ev x);grind[execOp,Sem.run_bind,Result.andThen_ok,Sem.run_pure]
 ·rename_i f args q8 ho
  rw[ho]at r8;cases r8
 ·rename_i args q8 ho
  split at e
  ·rename_i s t IQ hts
   obtain⟨x,rfl,hx⟩:=Wm IQ;have hv:=h.ev x;rw[hx]at hv;have YQ:=W4 (E:=E) (w:=w) (vw:=σ.bx) hv;split at e
   case isFalse=>cases e
   rename_i hs;have hu:=Wx hT hs;refine same (v:= .int .i64 (s.length:Int)) (x:= .c (.v (.int .i64) (s.length:Int))) ?_ (VR.int (E:=E) (vw:=σ.bx) _ _) e
   have PN:(⟨s.toArray⟩:ByteArray).size=s.length:=by rfl
   simp[execOp,ho,resolve,invoke,builtin,Builtin.len_,hts,YQ,Ba hu,goInt,PN]
  ·rename_i z t _ IQ hts
   obtain⟨x,rfl,hx⟩:=Wm IQ;have hv:=h.ev x;rw[hx]at hv;split at e
   case isFalse=>cases e
   rename_i hs;split at e
   case h_2=>cases e
   rename_i n hn;obtain⟨el,hu⟩:=lO hT hs;obtain⟨ad,cap,YQ⟩:=mJ hB st hn hv;refine same (v:= .int .i64 (n:Int)) (x:= .c (.v (.int .i64) (n:Int))) ?_ (VR.int (E:=E) (vw:=σ.bx) _ _) e
   simp[execOp,ho,resolve,invoke,builtin,Builtin.len_,hts,YQ,Ba hu,goInt]
  simp_all
 ·rename_i args q8 ho
  split at e
  case h_2=>cases e
  rename_i x1 x2 IQ;exact xH hT h ho rfl IQ e
 ·rename_i args q8 ho
  split at e
  case h_2=>cases e
  rename_i x IQ;exact zS hT h ho rfl IQ e (fun b p off n hx=>by grind[KS])
 ·rename_i args q8 ho
  split at e
  case h_2=>cases e
  rename_i x1 x2 IQ;obtain⟨o1,o2,rfl,hx1,hx2⟩:=Wa IQ;have bf:=h.ev o1;have Z7:=h.ev o2;rw[hx1]at bf;rw[hx2]at Z7;obtain⟨r,val,h1,h2,h3⟩:=Ta (P:=P) (big:=true) e bf Z7 q8 #[] o.type;simp only[ATK]at h2;exact same (v:=val) (x:= .c r) (by simp[execOp,ho,resolve,invoke,builtin,h2]) h3 h1
 ·rename_i args q8 ho
  split at e
  case h_2=>cases e
  rename_i x1 x2 IQ;obtain⟨o1,o2,rfl,hx1,hx2⟩:=Wa IQ;have bf:=h.ev o1;have Z7:=h.ev o2;rw[hx1]at bf;rw[hx2]at Z7;obtain⟨r,val,h1,h2,h3⟩:=Ta (P:=P) (big:=false) e bf Z7 q8 #[] o.type;simp only[AMH,AON]at h2;exact same (v:=val) (x:= .c r) (by simp[execOp,ho,resolve,invoke,builtin,h2]) h3 h1
 simp_all
end
end Go.Fw
end
