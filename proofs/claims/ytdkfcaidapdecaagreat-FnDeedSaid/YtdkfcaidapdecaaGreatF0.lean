/- The framework, part 1: a checked interpreter of the model's code over abstract states; no claim is made here. -/
import Derived.Calls
import Derived.Still
import Derived.Laws.World
import Derived.Laws.AppendOwn
import Derived.RowKit3
import Derived.Deep.MidRow
import Derived.Laws.StructEq
import Derived.Lib.ConvBytes
import Derived.Laws.BytesArg
import Derived.Tactics
import Derived.OrdersHeld
import Derived.ChangeArms
import Derived.ChangeOld
import Derived.DataReads
import Derived.Below
import Derived.Shelf.Spec.SlicesInsertGrow
import Derived.Shelf.Slices.Delete
set_option linter.unusedVariables false
set_option linter.unusedSimpArgs false
set_option linter.unusedSectionVars false
abbrev ABh:Type:=Int × Int × Bool × List UInt8 × Unit
abbrev ALb:Type:=List UInt8 × List Int × Bool × Unit
abbrev AFe:Type:=List Int × Bool × Int × Unit
abbrev AEn:Type:=Int × Int × List UInt8 × Unit
abbrev AG0:Type:=Int × List UInt8 × Bool × Unit
abbrev ADi:Type:=Unit × Int × Unit × Unit × Unit × Int × Unit × Unit × Unit × Unit × Bool × Unit
abbrev AAF:Type:=List Int
abbrev ALq:Type:=Int × Bool × Int × Int × Bool × List UInt8 × Unit
abbrev ABA:Type:=List Int × Int × Unit
abbrev ABj:Type:=List Int × Int × Int × Unit
abbrev AHZ:Type:=Int × Int × Unit × Unit × Bool × Unit × Unit
abbrev ABU:Type:=Bool × Unit
abbrev ABW:Type:=Int × Unit
abbrev ALg:Type:=Unit × Unit × Int × Unit
abbrev ABe:Type:=Int × Int × Int × Int × List UInt8 × Unit
abbrev ABc:Type:=Unit × Unit
abbrev ABd:Type:=List Int × Unit
abbrev AH5:Type:=Unit × Int × Unit
abbrev ABH:Type:=List Nat
abbrev AI4:Type:=Int × Int × Unit × Unit
abbrev AIA:Type:=Int × Unit × Unit
abbrev ALh:Type:=Int × Bool × Unit
abbrev ABg:Type:=Nat × Nat
abbrev AGb:Type:=Unit × List Int × Unit
abbrev AFi:Type:=Nat × List Nat
abbrev ABY:Type:=List UInt8
abbrev AGj:Type:=List UInt8 × Unit
abbrev ABT:Type:=Int × Int × List Int × List ABh × Bool × List AAF × Unit
abbrev ABa:Type:=List ABh × List ABh × Int × Unit
abbrev ABi:Type:=Int × Int × List AEn × Unit
abbrev ABb:Type:=Int × List ALb × Unit
abbrev AAZ:Type:=List ABh
abbrev AAP:Type:=List AFe
abbrev AAa:Type:=List AG0
abbrev ABZ:Type:=List AFe × Int × Unit
abbrev ALr:Type:=ADi × Int × Unit
abbrev ABX:Type:=List ALb
abbrev ALt:Type:=ALg × Bool × Unit
abbrev ALv:Type:=AHZ × Bool × Unit
abbrev ACp:Type:=ABj × Unit
abbrev ACq:Type:=AH5 × Unit
abbrev ACk:Type:=List AEn
abbrev AL_:Type:=AIA × Bool × Unit
abbrev AL1:Type:=AH5 × Bool × Unit
abbrev ALw:Type:=ABh × Bool × Unit
abbrev AE8:Type:=ABj × List Int × Unit
abbrev AEg:Type:=ALh × Unit
abbrev AEf:Type:=ALg × Unit
abbrev AED:Type:=AHZ × Unit
abbrev ABf:Type:=List ALq
abbrev AEj:Type:=AI4 × Unit
abbrev AEi:Type:=AIA × Unit
abbrev AEo:Type:=ABe × Unit
abbrev AEl:Type:=ADi × Unit
abbrev AB6:Type:=ABW × Unit
abbrev AFf:Type:=ABh × Unit
abbrev AKB:Type:=AIA × Int × Bool × Unit
abbrev AJV:Type:=AH5 × Int × Bool × Unit
abbrev AKW:Type:=ADi × Unit × ADi × Unit
abbrev AJU:Type:=AI4 × Int × Unit
abbrev ABV:Type:=List Int × Int × List ABa × List Int × List AFe × Int × List ABb × List ABT × List ABi × List AG0 × Bool × Unit
abbrev AAT:Type:=List ABa
abbrev AAj:Type:=List ABb
abbrev AAs:Type:=List ABi
abbrev AAo:Type:=List ABT
abbrev AC2:Type:=List Int × AAZ × List AAF × Unit
abbrev ACz:Type:=AAZ × AAZ × Unit
abbrev AB_:Type:=ALr × Unit
abbrev ADl:Type:=ALt × Unit
abbrev AEI:Type:=ALv × Unit
abbrev AD4:Type:=ABX × Unit
abbrev ADy:Type:=AAP × Unit
abbrev AEk:Type:=ACk × Unit
abbrev AEh:Type:=AAZ × Unit
abbrev AEm:Type:=ALw × Unit
abbrev AEq:Type:=AL1 × Unit
abbrev AEp:Type:=AL_ × Unit
abbrev ALT:Type:=ABj × List Int × AAZ × List AAF × Unit
abbrev AHR:Type:=Unit × AAZ × Unit
abbrev AJF:Type:=AI4 × Unit × ACk × Unit
abbrev ALI:Type:=ABj × AAZ × AAZ × Unit
abbrev ALS:Type:=ABj × ABX × Unit
abbrev ALO:Type:=ABj × AAP × Unit
abbrev ACf:Type:=List Int × AAT × List Int × AAP × AAj × AAo × AAs × AAa × Unit
abbrev ADw:Type:=ADi × List Int × AAT × List Int × AAP × AAj × AAo × AAs × AAa × Unit
abbrev ALX:Type:=ADi × List Int × AAT × Unit × AAP × AAj × AAo × AAs × AAa × List Int × Unit
abbrev AKH:Type:=List Int × AAT × Unit × AAP × AAj × AAo × AAs × AAa × List Int × Unit
abbrev AKR:Type:=AAT × AAZ × AAZ × Unit
abbrev AMA:=@Bool.eq_false_or_eq_true
abbrev AME:=@if_pos
abbrev AMG:=@if_neg
abbrev AMJ:=@List.getElem?_eq_getElem
abbrev AMO:=@Option.some.injEq
abbrev AMP:=@Option.bind_some
abbrev AMS:=@List.drop_eq_nil_of_le
abbrev AMU:=@Option.map_eq_some_iff
abbrev AMW:=@cond_false
abbrev AMX:=@List.getElem?_eq_some_iff
abbrev AMY:=@Bool.and_eq_true
abbrev AMZ:=@Bool.false_eq_true
abbrev AMc:=@Bool.not_true
abbrev AMi:=@Option.bind_eq_some_iff
abbrev AM3:=@List.getElem_mem
abbrev ANW:=@Int.toNat_natCast
abbrev AN0:=@List.length_cons
abbrev AN8:=@List.append_nil
abbrev AOK:=@cond_true
abbrev AOS:=@decide_eq_false
abbrev AOT:=@List.append_assoc
abbrev AOV:=@decide_eq_true_eq
abbrev AOq:=@List.length_append
abbrev AO0:=@decide_eq_true
abbrev APB:=@Bool.true_and
abbrev APS:=@List.drop_zero
abbrev APV:=@beq_eq_false_iff_ne
abbrev APl:=@Sigma.mk.injEq
abbrev APr:=@List.mem_append
abbrev APv:=@List.length_nil
abbrev AP2:=@List.nodup_append
abbrev AP3:=@Nat.le_refl
abbrev AQS:=@List.getElem?_append_left
abbrev AQU:=@List.nil_append
abbrev AQY:=@Nat.mul_le_mul_right
abbrev AQb:=@if_false
abbrev AQm:=@List.getElem?_append_right
abbrev AQq:=@List.mem_of_getElem?
abbrev AQs:=@List.singleton_append
abbrev AQv:=@Bool.not_eq_true
abbrev AQw:=@List.mem_cons
abbrev AQ5:=@Bool.not_eq_false'
abbrev AQ6:=@List.mem_singleton
abbrev AQ8:=@List.filter_cons
abbrev ARF:=@List.cons.injEq
abbrev ARH:=@List.eq_nil_of_length_eq_zero
abbrev ARK:=@Prod.mk.injEq
abbrev ARM:=@eq_of_heq
abbrev ARV:=@Nat.le_trans
abbrev ARZ:=@List.length_filter_le
abbrev ARa:=@List.getElem?_map
abbrev ARb:=@Bool.not_false
abbrev ARc:=@List.mem_flatten
abbrev ARd:=@List.getElem?_set_ne
abbrev ARe:=@beq_iff_eq
abbrev ARf:=@Bool.false_or
abbrev ARg:=@List.getElem_of_mem
abbrev ARh:=@List.length_set
abbrev ARi:=@List.pairwise_cons
abbrev ARj:=@if_true
abbrev ARk:=@List.take_of_length_le
abbrev ARl:=@Nat.lt_of_lt_of_le
abbrev ARm:=@Bool.false_and
abbrev ARn:=@List.mem_or_eq_of_mem_set
abbrev ARo:=@List.getElem?_eq_none
abbrev ARp:=@Int.tdiv_eq_ediv_of_nonneg
abbrev ARq:=@List.take_succ_eq_append_getElem
abbrev ARr:=@decide_eq_false_iff_not
abbrev ARs:=@Option.isSome_some
abbrev ARt:=@Bool.or_eq_true
abbrev ARu:=@List.contains_eq_mem
abbrev ARv:=@List.all_eq_true
abbrev ARw:=@Option.getD_some
abbrev ARx:=@and_true
abbrev ARy:=@List.getElem?_set_self
abbrev ARz:=@Nat.add_mul
abbrev AR0:=@Option.isSome_none
abbrev AR1:=@Bool.and_true
abbrev AR2:=@List.drop_length
abbrev AR3:=@Bool.not_eq_true'
abbrev AR4:=@Bool.eq_false_iff
abbrev AR5:=@Nat.zero_add
abbrev AR6:=@List.cons_append
abbrev AR7:=@List.set_cons_zero
abbrev AR8:=@List.mem_map
abbrev AR9:=@List.map_cons
abbrev AR_:=@List.all_cons
abbrev ASA:=@List.map_congr_left
abbrev ASB:=@List.flatten_append
abbrev ASC:=@List.length_replicate
abbrev ASD:=@List.eq_of_mem_replicate
abbrev ASE:=@List.contains_iff_mem
abbrev ASF:=@List.set_append_right
abbrev ASG:=@Nat.add_assoc
abbrev ASH:=@List.mem_filter
abbrev ASI:=@Nat.add_zero
abbrev ASJ:=@Int.tmod_eq_emod_of_nonneg
abbrev ASK:=@List.flatten_cons
abbrev ASL:=@List.length_map
abbrev ASa:=@Nat.le_of_lt
abbrev ASq:=@List.length_eq_zero_iff
abbrev AS8:=@Option.bind_assoc
abbrev ATA:=@List.pairwise_map
abbrev ATE:=@List.Perm.append_right
abbrev ATH:=@List.getElem_cons_zero
abbrev ATK:=@List.map_map
abbrev ATQ:=@List.getElem?_drop
abbrev ATW:=@List.mem_of_find?_eq_some
abbrev ATX:=@List.pairwise_iff_getElem
abbrev ATb:=@Bool.and_false
abbrev ATh:=@List.mem_of_mem_drop
abbrev ATl:=@List.ext_getElem?
abbrev ATn:=@List.filter_nil
abbrev ATq:=@apply_ite
abbrev ATw:=@Nat.sub_self
abbrev ATy:=@Array.length_toList
abbrev ATz:=@Nat.sub_mul
abbrev AT0:=@List.flatten_nil
abbrev AT7:=@List.length_drop
abbrev AUB:=@List.length_take
abbrev AUL:=@List.take_append_of_le_length
abbrev AUT:=@List.take_zero
abbrev AUd:=@List.getElem?_take
abbrev AUx:=@List.filter_append
abbrev AU2:=@List.Perm.append_left
abbrev AU6:=@List.map_nil
abbrev AU_:=@List.nodup_cons
abbrev AVE:=@Array.getD_eq_getD_getElem?
abbrev AVG:=@List.take_append_drop
abbrev AVK:=@List.getElem?_set
abbrev AVT:=@Decidable.not_not
abbrev AVU:=@List.exists_cons_of_length_eq_add_one
abbrev AVc:=@List.mem_of_mem_take
abbrev AVm:=@List.set_set
abbrev AVr:=@Bool.true_or
abbrev AVy:=@List.getElem?_replicate
abbrev AV2:=@Int.eq_ofNat_of_zero_le
abbrev AWK:=@Option.some.inj
abbrev AWL:=@List.find?_cons
abbrev AWM:=@Nat.eq_zero_or_pos
abbrev AWN:=@Bool.eq_iff_iff
abbrev AWO:=@Array.size_append
abbrev AWP:=@List.size_toArray
abbrev AWQ:=@Int.le_refl
abbrev AWR:=@dite_true
abbrev AWS:=@Bool.and_eq_false_iff
abbrev AWT:=@List.getElem_set_self
abbrev AWU:=@List.take_length
abbrev AWV:=@decide_eq_decide
abbrev AWW:=@List.mem_cons_of_mem
abbrev AWX:=@Bool.or_false
abbrev AWY:=@List.length_pos_iff
abbrev AWZ:=@List.drop_set_of_lt
abbrev AWa:=@List.take_set_of_le
abbrev AWb:=@List.Perm.refl
abbrev AWc:=@List.mapM_cons
abbrev AWd:=@List.map_id
section
namespace Go.Fw
inductive Ty where
 |int (k:IntKind)|bool|str|sl (r:Ty)|unit|cons (c r:Ty)
 deriving DecidableEq
@[reducible] def Ty.D:Ty→Type
 | .int _=>Int
 | .bool=>Bool
 | .str=>List UInt8
 | .sl r=>List r.D
 | .unit=>Unit
 | .cons c r=>c.D×r.D
def Ty.n:Ty→Nat
 | .unit=>0
 | .cons _ r=>r.n+1
 |_=>1
def Ty.z:(t:Ty)→t.D
 | .int _=>(0:Int)
 | .bool=>false
 | .str=>[]
 | .sl _=>[]
 | .unit=>()
 | .cons c r=>(c.z,r.z)
def Ty.flat:Ty→Bool
 | .sl _=>false
 | .cons c r=>c.flat&&r.flat
 |_=>true
def Ty.scalar:Ty→Bool
 | .int _| .bool| .str=>true
 |_=>false
structure Wo where
 i:Nat
 sz:Nat
 j:Nat
inductive AV where
 |v (t:Ty) (x:t.D)
 |sl (s:Bool) (r:Ty) (x:List r.D)
 |nil
 |ref (b:Nat) (p:List Wo)
 |win (b:Nat) (p:List Wo) (off n:Nat)
 |Im (b j:Nat)
 |Jk (b:Nat) (p:List Wo) (i sz j:Nat)
 |Pg (s:Bool) (r:Ty) (x:r.D) (j:Nat)
 |fn (f:Nat) (Kk:ABH)
 |qP (f:Nat) (rows:List ((r:Ty)×r.D))
 |xj
 |undef
def AV.known:AV→Bool
 | .undef=>false
 |_=>true
inductive XV where
 |c (x:AV)
 |agg (l:List AV)
 |Nr (l:List (AV ⊕ List AV))
inductive Bx where
 |mem (cs:List AV)
 |sl (d:Nat) (r:Ty) (rows:List r.D)
 |dead
structure St where
 tm:List XV
 bx:List Bx
def BN:(r:Ty)→(j:Nat)→r.D→Option ((t:Ty)×t.D)
 | .cons c _,0,x=>some ⟨c,x.1⟩
 | .cons _ r,j+1,x=>BN r j x.2
 | .unit,_,_=>none
 | .int k,0,x=>some ⟨.int k,x⟩
 | .bool,0,x=>some ⟨.bool,x⟩
 | .str,0,x=>some ⟨.str,x⟩
 | .sl r,0,x=>some ⟨.sl r,x⟩
 |_,_+1,_=>none
def oU{a b:Ty}(h:a=b)(x:a.D):b.D:=h▸x
def Dz:(r:Ty)→(j:Nat)→r.D→(t:Ty)→t.D→Option r.D
 | .cons c _,0,x,t,y=>if h:t=c then some (oU h y,x.2)else none
 | .cons _ r,j+1,x,t,y=>(Dz r j x.2 t y).map fun z=>(x.1,z)
 | .unit,_,_,_,_=>none
 | .int k,0,_,t,y=>if h:t= .int k then some (oU h y)else none
 | .bool,0,_,t,y=>if h:t= .bool then some (oU h y)else none
 | .str,0,_,t,y=>if h:t= .str then some (oU h y)else none
 | .sl r,0,_,t,y=>if h:t= .sl r then some (oU h y)else none
 |_,_+1,_,_,_=>none
def rowAt(r:Ty)(rows:List r.D)(i:Nat):r.D:=rows.getD i r.z
def HE:(r:Ty)→List r.D→List Wo→Option ((q:Ty)×List q.D)
 |r,rows,[]=>some ⟨r,rows⟩
 |r,rows,s::p=>
  match BN r s.j (rowAt r rows s.i)with
  |some ⟨.sl q,x⟩=>HE q x p
  |_=>none
def pA:(r:Ty)→List r.D→List Wo→(q:Ty)→List q.D→Option (List r.D)
 |r,_,[],q,y=>if h:q=r then some (oU (congrArg Ty.sl h) y)else none
 |r,rows,s::p,q,y=>
  match BN r s.j (rowAt r rows s.i)with
  |some ⟨.sl r',x⟩=>(pA r' x p q y).bind fun x' =>(Dz r s.j (rowAt r rows s.i) (.sl r') x').map fun row=>rows.set s.i row
  |_=>none
inductive TD where
 |int (k:IntKind)|bool|str|sl (e:Nat)|st (fs:List ABg)|ptr (e:Nat)|other
structure TI where
 size:Nat
 bytes:Nat
 desc:TD
 row:Option Ty
abbrev J0:=List (Nat×TI)
def J0.get:J0→Nat→Option TI
 |[],_=>none
 |(u,i)::l,t=>if u=t then some i else J0.get l t
def TD.agg:TD→Bool
 | .st _=>true
 |_=>false
def J0.ir(T:J0)(t:Nat):Option Ty:=
 match T.get t with
 |some ti=>ti.row
 |none=>none
def xL:Ty→AV
 | .int k=> .v (.int k) (0:Int)
 | .bool=> .v .bool false
 | .str=> .v .str []
 | .sl _=> .nil
 |_=> .undef
def bC:Ty→List AV
 | .cons c r=>xL c::bC r
 | .unit=>[]
 |t=>[xL t]
def ni:Value→AV
 | .int k n=> .v (.int k) n
 | .bool b=> .v .bool b
 | .string s=> .v .str s.data.toList
 | .slice none 0 0=> .nil
 | .pointer none=> .xj
 |_=> .undef
def ofValue:Value→XV
 | .agg cs=> .agg (cs.toList.map ni)
 |v=> .c (ni v)
def St.ev(σ:St):Operand→XV
 | .tmp t=>σ.tm.getD t (.c .undef)
 | .const v=>ofValue v
 | .global _=> .c .undef
 | .func f=> .c (.fn f [])
def St.put(σ:St)(dst:Option Tmp)(x:XV):St:=
 match dst with
 |some d=>{ σ with tm:=σ.tm.set d x }
 |none=>σ
def XV.cells:XV→List AV
 | .c x=>[x]
 | .agg l=>l
 | .Nr _=>[]
def Qm{β:Ty→Type}(a b:Ty)(x:β a):Option (β b):=if h:a=b then some (h▸x)else none
def Ng(bx:List Bx):AV→Option ((r:Ty)×List r.D)
 | .sl _ r x=>some ⟨r,x⟩
 | .ref b p=>
  match bx[b]? with
  |some (.sl _ r rows)=>HE r rows p
  |_=>none
 | .win b p off n=>
  match bx[b]? with
  |some (.sl _ r rows)=>(HE r rows p).map fun q=>⟨q.1,(q.2.drop off).take n⟩
  |_=>none
 |_=>none
def NL(bx:List Bx)(t:Ty)(x:AV):Option t.D:=
 match x with
 | .v u y=>Qm (β:=Ty.D) u t y
 | .nil=>match t with
  | .sl _=>some []
  |_=>none
 |x=>match t with
  | .sl r=>(Ng bx x).bind fun q=>Qm (β:=fun r=>List r.D) q.1 r q.2
  |_=>none
def IL(bx:List Bx):(r:Ty)→List AV→Option r.D
 | .unit,[]=>some ()
 | .cons c r,x::l=>(NL bx c x).bind fun a=>(IL bx r l).map fun b=>(a,b)
 |_,_=>none
def lenOf(bx:List Bx):AV→Option Nat
 | .nil=>some 0
 | .sl _ _ x=>some x.length
 | .ref b p=>
  match bx[b]? with
  |some (.sl _ r rows)=>(HE r rows p).map fun q=>q.2.length
  |_=>none
 | .win b _ _ n=>
  match bx[b]? with
  |some (.sl _ _ _)=>some n
  |_=>none
 |_=>none
inductive AP where
 |v (t:Ty)
 |sl (s:Bool) (r:Ty)
 |nil
 |ref (i:Nat)
 |ptr (i j:Nat)
 |mG (r:Ty)
 |fn (f:Nat) (Kk:ABH)
 |qP (f:Nat) (rs:List Ty)
 |any
 |jy (i sz:Nat)
inductive XP where
 |c (p:AP)
 |agg (l:List AP)
 |row (r:Ty)
 |Nr (l:List (AP ⊕ List AP))
inductive BP where
 |mem (l:List AP)
 |sl (d:Nat) (r:Ty)
 |gone
structure BE where
 EM:List (Nat×XP)
 G3:List BP
@[reducible] def ZY:List Ty→Type
 |[]=>Unit
 |r::l=>r.D×ZY l
def ZY.mk:(l:List Ty)→ZY l→List ((r:Ty)×r.D)
 |[],_=>[]
 |r::l,x=>⟨r,x.1⟩::ZY.mk l x.2
@[reducible] def AP.V:AP→Type
 | .qP _ rs=>ZY rs
 | .v t=>t.D
 | .sl _ r=>List r.D
 | .mG r=>r.D
 | .jy _ _=>Nat×Nat
 |_=>Unit
@[reducible] def X7.V:List AP→Type
 |[]=>Unit
 |p::l=>p.V×X7.V l
@[reducible] def YK.V:List (AP ⊕ List AP)→Type
 |[]=>Unit
 | .inl p::l=>p.V×YK.V l
 | .inr q::l=>X7.V q×YK.V l
@[reducible] def XP.V:XP→Type
 | .c p=>p.V
 | .agg l=>X7.V l
 | .row r=>r.D
 | .Nr l=>YK.V l
@[reducible] def BP.V:BP→Type
 | .mem l=>X7.V l
 | .sl _ r=>List r.D
 | .gone=>Unit
@[reducible] def G8.V:List (Nat×XP)→Type
 |[]=>Unit
 |(_,p)::l=>p.V×G8.V l
@[reducible] def J1.V:List BP→Type
 |[]=>Unit
 |p::l=>p.V×J1.V l
@[reducible] def BE.V (s:BE):Type:=G8.V s.EM×J1.V s.G3
def AP.mk(m:Nat→Nat):(p:AP)→p.V→AV
 | .v t,x=> .v t x
 | .sl s r,x=> .sl s r x
 | .nil,_=> .nil
 | .ref i,_=> .ref (m i) []
 | .ptr i j,_=> .Im (m i) j
 | .mG r,x=> .Pg false r x 0
 | .fn f Kk,_=> .fn f (Kk.map m)
 | .qP f rs,x=> .qP f (ZY.mk rs x)
 | .any,_=> .undef
 | .jy i sz,k=> .ref (m i) [⟨k.1,sz,k.2⟩]
def X7.mk(m:Nat→Nat):(l:List AP)→X7.V l→List AV
 |[],_=>[]
 |p::l,x=>p.mk m x.1::X7.mk m l x.2
def oy:(r:Ty)→r.D→List AV
 | .unit,_=>[]
 | .cons c r,x=>(match c,x.1 with
  | .sl q,y=>AV.sl false q y
  |c,y=> .v c y)::oy r x.2
 | .sl q,x=>[.sl false q x]
 | .int k,x=>[.v (.int k) x]
 | .bool,x=>[.v .bool x]
 | .str,x=>[.v .str x]
def YK.mk(m:Nat→Nat):(l:List (AP ⊕ List AP))→YK.V l→List (AV ⊕ List AV)
 |[],_=>[]
 | .inl p::l,x=> .inl (p.mk m x.1)::YK.mk m l x.2
 | .inr q::l,x=> .inr (X7.mk m q x.1)::YK.mk m l x.2
def XP.mk(m:Nat→Nat):(p:XP)→p.V→XV
 | .c p,x=> .c (p.mk m x)
 | .agg l,x=> .agg (X7.mk m l x)
 | .row r,x=> .agg (oy r x)
 | .Nr l,x=> .Nr (YK.mk m l x)
def BP.mk(m:Nat→Nat):(p:BP)→p.V→Bx
 | .mem l,x=> .mem (X7.mk m l x)
 | .sl d r,x=> .sl d r x
 | .gone,_=> .dead
def G8.mk(m:Nat→Nat):(l:List (Nat×XP))→G8.V l→List XV→List XV
 |[],_,tm=>tm
 |(i,p)::l,x,tm=>G8.mk m l x.2 (tm.set i (p.mk m x.1))
def J1.mk(m:Nat→Nat):(l:List BP)→J1.V l→List Bx
 |[],_=>[]
 |p::l,x=>p.mk m x.1::J1.mk m l x.2
def BE.st(s:BE)(n:Nat)(x:s.V):St:=
 { tm:=G8.mk id s.EM x.1 (List.replicate n (.c .undef)),bx:=J1.mk id s.G3 x.2 }
abbrev Pm:=List (Option Nat)
def Pm.put(m:Pm)(i b:Nat):Option Pm:=
 match m[i]? with
 |some none=>if m.contains (some b)then none else some (m.set i (some b))
 |some (some b')=>if b' =b then some m else none
 |none=>none
def a_:Pm→List Nat→List Nat→Option Pm
 |m,[],[]=>some m
 |m,i::is,b::bs=>(m.put i b).bind fun m=>a_ m is bs
 |_,_,_=>none
def AP.OD(N:Nat)(m:Pm):AP→AV→Option Pm
 | .ref i,.ref b []=>m.put i b
 | .ref i,.nil=>m.put i (N+i)
 | .ref _,_=>none
 | .jy i sz,.ref b [s]=>if s.sz=sz then m.put i b else none
 | .jy _ _,_=>none
 | .ptr i j,.Im b j' =>if j=j' then m.put i b else none
 | .ptr _ _,_=>none
 | .fn f Kk,.fn g bs=>if f=g then a_ m Kk bs else none
 | .fn _ _,_=>none
 | .nil,.nil=>some m
 | .nil,_=>none
 |_,_=>some m
def X7.OD(N:Nat):Pm→List AP→List AV→Option Pm
 |m,[],[]=>some m
 |m,p::l,x::xs=>(p.OD N m x).bind fun m=>X7.OD N m l xs
 |_,_,_=>none
def YK.OD(N:Nat):Pm→List (AP ⊕ List AP)→List (AV ⊕ List AV)→Option Pm
 |m,[],[]=>some m
 |m,.inl p::l,.inl x::xs=>(p.OD N m x).bind fun m=>YK.OD N m l xs
 |m,.inr p::l,.inr x::xs=>(X7.OD N m p x).bind fun m=>YK.OD N m l xs
 |_,_,_=>none
def XP.OD(N:Nat)(m:Pm):XP→XV→Option Pm
 | .c p,.c x=>p.OD N m x
 | .agg l,.agg xs=>X7.OD N m l xs
 | .row _,.agg _=>some m
 | .Nr l,.Nr xs=>YK.OD N m l xs
 |_,_=>none
def G8.OD(N:Nat)(tm:List XV):Pm→List (Nat×XP)→Option Pm
 |m,[]=>some m
 |m,(i,p)::l=>
  match tm[i]? with
  |some x=>(p.OD N m x).bind fun m=>G8.OD N tm m l
  |none=>none
def J1.OD(N:Nat)(bx:List Bx):Nat→Pm→List BP→Option Pm
 |_,m,[]=>some m
 |i,m,.mem l::ps=>
  match m[i]? with
  |some (some b)=>
   match bx[b]? with
   |some (.mem cs)=>(X7.OD N m l cs).bind fun m=>J1.OD N bx (i+1) m ps
   |_=>none
  |_=>none
 |i,m,.sl _ _::ps=>
  match m[i]? with
  |some (some _)=>J1.OD N bx (i+1) m ps
  |_=>none
 |i,m,.gone::ps=>J1.OD N bx (i+1) m ps
def Ct(bx:List Bx):Pm→List Bx
 |[]=>bx
 |some b::m=>Ct (bx.set b .dead) m
 |none::m=>Ct bx m
def ZY.pt:(l:List Ty)→List ((r:Ty)×r.D)→Option (ZY l)
 |[],[]=>some ()
 |r::l,q::qs=>(Qm (β:=Ty.D) q.1 r q.2).bind fun a=>(ZY.pt l qs).map fun b=>(a,b)
 |_,_=>none
def ZY.o7(bx:List Bx):(l:List Ty)→List Nat→Option (ZY l)
 |[],[]=>some ()
 |r::l,b::bs=>(match bx[b]? with
  |some (.mem cs)=>IL bx r cs
  |_=>none).bind fun a=>(ZY.o7 bx l bs).map fun c=>(a,c)
 |_,_=>none
def AP.get(bx:List Bx):(p:AP)→AV→Option p.V
 | .qP f rs,x=>match x with
  | .qP g rows=>if f=g then ZY.pt rs rows else none
  | .fn g bs=>if f=g then ZY.o7 bx rs bs else none
  |_=>none
 | .v t,x=>if t.scalar then NL bx t x else none
 | .sl false r,x=>NL bx (.sl r) x
 | .sl true r,x=>match x with
  | .sl true q y=>Qm (β:=fun r=>List r.D) q r y
  | .nil=>some []
  |_=>none
 | .mG r,x=>match x with
  | .Pg _ q y 0=>Qm (β:=Ty.D) q r y
  | .Im b 0=>match bx[b]? with
   |some (.mem cs)=>IL bx r cs
   |_=>none
  | .Jk b p i sz 0=>match bx[b]? with
   |some (.sl _ q rows)=>(HE q rows p).bind fun s=>if sz=s.1.n then Qm (β:=Ty.D) s.1 r (rowAt s.1 s.2 i)else none
   |_=>none
  |_=>none
 | .nil,_=>some ()
 | .ref _,_=>some ()
 | .ptr _ _,_=>some ()
 | .fn _ _,_=>some ()
 | .any,_=>some ()
 | .jy _ _,x=>match x with
  | .ref _ [s]=>some (s.i,s.j)
  |_=>none
def X7.get(bx:List Bx):(l:List AP)→List AV→Option (X7.V l)
 |[],[]=>some ()
 |p::l,x::xs=>(p.get bx x).bind fun a=>(X7.get bx l xs).map fun b=>(a,b)
 |_,_=>none
def YK.get(bx:List Bx):(l:List (AP ⊕ List AP))→List (AV ⊕ List AV)→Option (YK.V l)
 |[],[]=>some ()
 | .inl p::l,.inl x::xs=>(p.get bx x).bind fun a=>(YK.get bx l xs).map fun b=>(a,b)
 | .inr p::l,.inr x::xs=>(X7.get bx p x).bind fun a=>(YK.get bx l xs).map fun b=>(a,b)
 |_,_=>none
def XP.get(bx:List Bx):(p:XP)→XV→Option p.V
 | .c p,.c x=>p.get bx x
 | .agg l,.agg xs=>X7.get bx l xs
 | .row r,.agg xs=>IL bx r xs
 | .Nr l,.Nr xs=>YK.get bx l xs
 |_,_=>none
def G8.get(bx:List Bx)(tm:List XV):(l:List (Nat×XP))→Option (G8.V l)
 |[]=>some ()
 |(i,p)::l=>
  match tm[i]? with
  |some x=>(p.get bx x).bind fun a=>(G8.get bx tm l).map fun b=>(a,b)
  |none=>none
def J1.get(bx bk:List Bx):(m:Pm)→(l:List BP)→Option (J1.V l)
 |_,[]=>some ()
 |some b::m,.mem l::ps=>
  match bx[b]? with
  |some (.mem cs)=>(X7.get bk l cs).bind fun a=>(J1.get bx bk m ps).map fun c=>(a,c)
  |_=>none
 |some b::m,.sl d r::ps=>
  match bx[b]? with
  |some (.sl d' q rows)=>if 1≤d∧d≤d' then(Qm (β:=fun r=>List r.D) q r rows).bind fun a=>(J1.get bx bk m ps).map fun c=>(a,c)else none
  |_=>none
 |_::m,.gone::ps=>(J1.get bx bk m ps).map fun c=>((),c)
 |_,_=>none
def BE.fit(s:BE)(N:Nat)(m0:Pm)(tm:List XV)(bx:List Bx):Option (s.V×Pm):=
 (G8.OD N tm m0 s.EM).bind fun m=>(J1.OD N bx 0 m s.G3).bind fun m=>
  let bk:=Ct bx m
  (G8.get bk tm s.EM).bind fun a=>(J1.get bx bk m s.G3).map fun c=>((a,c),m)
def BP.opened:BP→Bx
 | .sl d r=> .sl (d+1) r []
 |_=> .dead
def BE.opens(s:BE)(bx:List Bx):List Bx:=bx++s.G3.map BP.opened
def BE.m0(s:BE):Pm:=List.replicate s.G3.length none
structure QB where
 ins:BE
 outs:BE
 g:ins.V→Option outs.V
def YQ(m:Pm)(n:Nat)(i:Nat):Nat:=
 match m[i]? with
 |some (some b)=>b
 |_=>n+(i-m.length)
def aD(JT:Nat→Nat):Nat→(l:List BP)→J1.V l→List Bx→List Bx
 |_,[],_,bx=>bx
 |i,p::l,x,bx=>aD JT (i+1) l x.2 (if JT i<bx.length then bx.set (JT i) (p.mk JT x.1)else bx++[p.mk JT x.1])
def eK:(l:List (Nat×XP))→G8.V l→(Nat→Nat)→XV
 |(_,p)::_,x,JT=>p.mk JT x.1
 |[],_,_=> .c .undef
def DF:Nat:=2^36
section ops
variable{Y:Type}
abbrev K(Y:Type):=XV→St→Option Y
def St.new(σ:St)(b:Bx):St:={ σ with bx:=σ.bx++[b] }
def ACx(x:Bool)(a b:XV)(σ:St)(k:K Y):Option Y:=cond x (k a σ) (k b σ)
def fQ(op:BinOp)(κ:IntKind)(a b:Int)(k:AV→Option Y):Option Y:=
 match op with
 | .add=>k (.v (.int κ) (κ.wrap (a+b)))
 | .sub=>k (.v (.int κ) (κ.wrap (a-b)))
 | .mul=>k (.v (.int κ) (κ.wrap (a*b)))
 | .quo=>if b=0 then none else k (.v (.int κ) (κ.wrap (a.tdiv b)))
 | .rem=>if b=0 then none else k (.v (.int κ) (a.tmod b))
 | .and=>k (.v (.int κ) (κ.wrap (BitVec.ofInt κ.bits a &&& BitVec.ofInt κ.bits b).toNat))
 | .or=>k (.v (.int κ) (κ.wrap (BitVec.ofInt κ.bits a ||| BitVec.ofInt κ.bits b).toNat))
 | .xor=>k (.v (.int κ) (κ.wrap (BitVec.ofInt κ.bits a ^^^ BitVec.ofInt κ.bits b).toNat))
 | .andNot=>k (.v (.int κ) (κ.wrap (BitVec.ofInt κ.bits a &&& ~~~BitVec.ofInt κ.bits b).toNat))
 | .eql=>k (.v .bool (a==b))
 | .neq=>k (.v .bool (a !=b))
 | .lss=>k (.v .bool (decide (a<b)))
 | .leq=>k (.v .bool (decide (a≤b)))
 | .gtr=>k (.v .bool (decide (a>b)))
 | .geq=>k (.v .bool (decide (a≥b)))
 |_=>none
def Yg(op:BinOp)(κ:IntKind)(a b:Int)(k:AV→Option Y):Option Y:=
 if b<0 then none else
 match op with
 | .shl=>k (.v (.int κ) (κ.wrap (a*2^min b.toNat κ.bits)))
 | .shr=>k (.v (.int κ) (a.fdiv (2^min b.toNat κ.bits)))
 |_=>none
def jO(op:BinOp)(a b:ABY)(k:AV→Option Y):Option Y:=
 match op with
 | .add=>if a.length+b.length≤DF then k (.v .str (a++b))else none
 | .eql=>k (.v .bool (a==b))
 | .neq=>k (.v .bool (!(a==b)))
 | .lss=>k (.v .bool (Op.bytesLess a b))
 | .leq=>k (.v .bool (Op.bytesLess a b||a==b))
 | .gtr=>k (.v .bool (!(Op.bytesLess a b||a==b)))
 | .geq=>k (.v .bool (!Op.bytesLess a b))
 |_=>none
def pP:TD→AV→AV→Option Bool
 | .int _,.v (.int j) a,.v (.int k) b=>if j=k then some (a==b)else none
 | .bool,.v .bool a,.v .bool b=>some (a==b)
 | .str,.v .str a,.v .str b=>some (a==b)
 |_,_,_=>none
def LX(T:J0):Nat→List ABg→List AV→List AV→Option Bool
 |_,[],[],[]=>some true
 |i,(o,t)::fs,x::l,z::m=>
  if o=i then
   match T.get t with
   |some ti=>match pP ti.desc x z with
    |some p=>(LX T (i+1) fs l m).map fun r=>p&&r
    |none=>none
   |none=>none
  else none
 |_,_,_,_=>none
def J0.fields(T:J0)(t:Nat):Option (List ABg):=
 match(T.get t).map TI.desc with
 |some (.st fs)=>some fs
 |_=>none
def uq(T:J0)(t:Nat)(op:BinOp)(a b:XV)(k:AV→Option Y):Option Y:=
 match a,b with
 | .c (.v (.int j) x),.c (.v (.int j') y)=>
  match op with
  | .shl| .shr=>Yg op j x y k
  |_=>if j=j' then fQ op j x y k else none
 | .c (.v .str x),.c (.v .str y)=>jO op x y k
 | .c (.v .bool x),.c (.v .bool y)=>
  match T.get t with
  |some ti=>match ti.desc with
   | .bool=>match op with
    | .eql=>k (.v .bool (x==y))
    | .neq=>k (.v .bool (!(x==y)))
    |_=>none
   |_=>none
  |none=>none
 | .agg l,.agg m=>
  match op,(T.fields t).bind fun fs=>LX T 0 fs l m with
  | .eql,some r=>k (.v .bool r)
  | .neq,some r=>k (.v .bool (!r))
  |_,_=>none
 |_,_=>none
def unX(op:UnOp)(a:XV)(k:AV→Option Y):Option Y:=
 match op,a with
 | .not,.c (.v .bool x)=>k (.v .bool (!x))
 | .neg,.c (.v (.int j) x)=>k (.v (.int j) (j.wrap (0-x)))
 |_,_=>none
def zY(d b:Nat)(p:List Wo)(s:Wo):((t:Ty)×t.D)→AV
 |⟨.sl r,x⟩=>if d≤1 then .sl true r x else .ref b (p++[s])
 |⟨t,x⟩=>if t.scalar then .v t x else .undef
def xD(s:Bool):((t:Ty)×t.D)→AV
 |⟨.sl r,x⟩=> .sl s r x
 |⟨t,x⟩=>if t.scalar then .v t x else .undef
def dw(f:Nat→Option AV):Nat→Nat→Option (List AV)
 |_,0=>some []
 |j,n+1=>(f j).bind fun x=>(dw f (j+1) n).map fun l=>x::l
def Ja(bx:List Bx):AV→Nat→Option AV
 | .Im b j,i=>
  match bx[b]? with
  |some (.mem cs)=>cs[j+i]?
  |_=>none
 | .Jk b p r sz j,i=>
  match bx[b]? with
  |some (.sl d q rows)=>if p.length<d then(HE q rows p).bind fun s=>if sz=s.1.n then(BN s.1 (j+i) (rowAt s.1 s.2 r)).map (zY (d-p.length) b p ⟨r,sz,j+i⟩)else none else none
  |_=>none
 | .Pg s r x j,i=>(BN r (j+i) x).map (xD s)
 |_,_=>none
def lI(T:J0)(t:Nat)(σ:St)(a:XV):Option XV:=
 match a,T.get t with
 | .c a,some ti=>if ti.size=0 then none else if ti.desc.agg then(dw (Ja σ.bx a) 0 ti.size).map .agg else(Ja σ.bx a 0).map .c
 |_,_=>none
def dV(d:Nat)(t:Ty)(x:AV)(bx:List Bx):Option (t.D×List Bx×Nat):=
 match x with
 | .v u y=>(Qm (β:=Ty.D) u t y).map fun y=>(y,bx,d)
 | .nil=>match t with
  | .sl _=>some ([],bx,d)
  |_=>none
 | .sl true r y=>match t with
  | .sl q=>(Qm (β:=fun r=>List r.D) r q y).map fun y=>(y,bx,1)
  |_=>none
 | .ref b []=>match t with
  | .sl q=>
   match bx[b]? with
   |some (.sl d' r y)=>(Qm (β:=fun r=>List r.D) r q y).map fun y=>(y,bx.set b .dead,min d (d'+1))
   |_=>none
  |_=>none
 | .win b [] off n=>match t with
  | .sl q=>
   match bx[b]? with
   |some (.sl d' r y)=>(Qm (β:=fun r=>List r.D) r q ((y.drop off).take n)).map fun y=>(y,bx.set b .dead,min d (d'+1))
   |_=>none
  |_=>none
 |_=>none
def cellsIn(d:Nat):(r:Ty)→List AV→List Bx→Option (r.D×List Bx×Nat)
 | .unit,[],bx=>some ((),bx,d)
 | .cons c r,x::l,bx=>(dV d c x bx).bind fun a=>(cellsIn a.2.2 r l a.2.1).map fun b=>((a.1,b.1),b.2)
 |_,_,_=>none
def AEG(d:Nat)(r:Ty)(x:XV)(bx:List Bx):Option (r.D×List Bx×Nat):=
 match x with
 | .agg l=>cellsIn d r l bx
 | .c x=>dV d r x bx
 |_=>none
def J3(b:Nat):AV→AV
 | .ref b' (s::p)=>if b' =b then .undef else .ref b' (s::p)
 | .win b' (s::p) i n=>if b' =b then .undef else .win b' (s::p) i n
 | .Jk b' (s::p) i sz j=>if b' =b then .undef else .Jk b' (s::p) i sz j
 |x=>x
def tV(b:Nat):XV→XV
 | .c x=> .c (J3 b x)
 | .agg l=> .agg (l.map (J3 b))
 | .Nr l=> .Nr (l.map fun| .inl x=> .inl (J3 b x)| .inr q=> .inr (q.map (J3 b)))
def zR(b:Nat):Bx→Bx
 | .mem cs=> .mem (cs.map (J3 b))
 |x=>x
def St.za(b:Nat)(σ:St):St:={ tm:=σ.tm.map (tV b),bx:=σ.bx.map (zR b) }
def W7(cs:List AV):Nat→List AV→Option (List AV)
 |_,[]=>some cs
 |j,x::l=>if j<cs.length then W7 (cs.set j x) (j+1) l else none
def nM(d:Nat)(r:Ty)(old:r.D)(j:Nat)(x:XV)(bx:List Bx):Option (r.D×List Bx×Nat):=
 match x with
 | .agg l=>if j=0 then cellsIn d r l bx else none
 | .c x=>
  match BN r j old with
  |some ⟨t,_⟩=>(dV d t x bx).bind fun a=>(Dz r j old t a.1).map fun row=>(row,a.2)
  |none=>none
 |_=>none
def XV.plain:XV→Bool
 | .c (.v _ _)=>true
 |_=>false
def gR(σ:St)(a:XV)(x:XV):Option St:=
 match a with
 | .c (.Im b j)=>
  match σ.bx[b]? with
  |some (.mem cs)=>(W7 cs j x.cells).map fun cs=>{ σ with bx:=σ.bx.set b (.mem cs) }
  |_=>none
 | .c (.Jk b p i sz j)=>
  match σ.bx[b]? with
  |some (.sl d r rows)=>if p.length<d then
   (HE r rows p).bind fun s=>if sz=s.1.n then(nM (d-p.length) s.1 (rowAt s.1 s.2 i) j x (σ.bx.set b .dead)).bind fun w=>
    (pA r rows p s.1 (s.2.set i w.1)).map fun rows=>
     let σ':St:={ σ with bx:=w.2.1.set b (.sl (w.2.2+p.length) r rows) }
     if x.plain then σ' else σ'.za b
    else none
   else none
  |_=>none
 |_=>none
def aJ(σ:St)(a x:XV):Option (St×XV):=
 match a,x with
 | .c (.Jk b _ _ _ _),.c (.win b' (s::p') off n)=>
  if b' =b then
   match σ.bx[b]? with
   |some (.sl d r rows)=>(HE r rows (s::p')).map fun q=>({ σ with bx:=σ.bx.set b (.sl (min d (p'.length+1)) r rows) },.c (.sl true q.1 ((q.2.drop off).take n)))
   |_=>none
  else none
 |_,_=>some (σ,x)
def Ly(σ:St)(a x:XV):Option St:=(aJ σ a x).bind fun q=>gR q.1 a q.2
def nD(bx:List Bx)(x:AV):Option ((r:Ty)×(List r.D×List Bx×Nat)):=
 match x with
 | .v .str s=>some ⟨.int .u8,s.map (fun c=>(c.toNat:Int)),bx,9⟩
 | .sl s r rows=>if r.flat then some ⟨r,rows,bx,9⟩else if s then some ⟨r,rows,bx,1⟩else none
 | .ref b []=>
  match bx[b]? with
  |some (.sl d r rows)=>if r.flat then some ⟨r,rows,bx,9⟩else some ⟨r,rows,bx.set b .dead,d⟩
  |_=>none
 | .ref b p=>
  match bx[b]? with
  |some (.sl _ r rows)=>(HE r rows p).bind fun q=>if q.1.flat then some ⟨q.1,q.2,bx,9⟩else none
  |_=>none
 | .win b p off n=>
  match bx[b]? with
  |some (.sl _ r rows)=>(HE r rows p).bind fun q=>if q.1.flat then some ⟨q.1,(q.2.drop off).take n,bx,9⟩else none
  |_=>none
 |_=>none
def nJ(bx:List Bx)(x:AV):Option ((r:Ty)×(List r.D×List Bx×Nat)):=
 match x with
 | .ref b []=>
  match bx[b]? with
  |some (.sl d r rows)=>some ⟨r,rows,bx.set b .dead,d⟩
  |_=>none
 | .win b [] off n=>
  match bx[b]? with
  |some (.sl d r rows)=>some ⟨r,(rows.drop off).take n,bx.set b .dead,d⟩
  |_=>none
 |_=>none
def J0.elem(T:J0)(t:Nat):Option TI:=
 match(T.get t).map TI.desc with
 |some (.sl e)=>T.get e
 |_=>none
def J0.Nl(T:J0)(t:Nat)(r:Ty):Bool:=
 match T.elem t with
 |some ti=>decide (ti.size=r.n)&&decide (ti.bytes≤512)&&decide (ti.row=some r)
 |none=>false
def J0.isStr(T:J0)(t:Nat):Bool:=
 match(T.get t).map TI.desc with
 |some .str=>true
 |_=>false
def J0.AGI(T:J0)(t:Nat):Bool:=
 match(T.get t).map TI.desc with
 |some (.sl _)=>true
 |_=>false
def eI(T:J0)(ts:Array TypeId)(σ:St)(a x:XV)(k:K Y):Option Y:=
 match ts[0]?,ts[1]? with
 |some t,some u=>
  if T.AGI u||T.isStr u then
   match a,x with
   | .c .nil,.c y=>
    (nD σ.bx y).bind fun s=>if T.Nl t s.1 then
     if s.2.1.length≤DF then k (.c (.ref s.2.2.1.length [])) { σ with bx:=s.2.2.1++[.sl s.2.2.2 s.1 s.2.1] }else none
     else none
   | .c a,.c y=>
    (nJ σ.bx a).bind fun d=>if T.Nl t d.1 then(nD d.2.2.1 y).bind fun s=>
     (Qm (β:=fun r=>List r.D) s.1 d.1 s.2.1).bind fun rows=>
      if d.2.1.length+rows.length≤DF then
       k (.c (.ref s.2.2.1.length [])) { σ with bx:=s.2.2.1++[.sl (min d.2.2.2 s.2.2.2) d.1 (d.2.1++rows)] }
      else none
     else none
   |_,_=>none
  else none
 |_,_=>none
def j0(T:J0)(ts:Array TypeId)(σ:St)(x:XV)(k:K Y):Option Y:=
 match ts[0]?,x with
 |some t,.c (.win b [] off n)=>
  match σ.bx[b]? with
  |some (.sl d r rows)=>if T.Nl t r&&(r.flat&&decide (0<r.n))then k (.c .undef) { σ with bx:=σ.bx.set b (.sl d r ((rows.take off++List.replicate n r.z)++rows.drop (off+n))) }else none
  |_=>none
 |_,_=>none
def da:XV→Option Int
 | .c (.v (.int _) n)=>some n
 |_=>none
def Ox(len:Nat)(lo hi:Option XV)(k:Nat→Nat→Option Y):Option Y:=
 let h:Option Int:=match hi with
  |none=>some (len:Int)
  |some x=>da x
 let l:Option Int:=match lo with
  |none=>some 0
  |some x=>da x
 match l,h with
 |some l,some h=>if 0≤l∧l≤h∧h≤(len:Int)then k l.toNat h.toNat else none
 |_,_=>none
def kg(T:J0)(t:Nat)(σ:St)(x:XV)(lo hi:Option XV)(k:K Y):Option Y:=
 match x with
 | .c (.v .str s)=>if T.isStr t then Ox s.length lo hi fun l h=>k (.c (.v .str ((s.drop l).take (h-l)))) σ else none
 | .c (.sl s r rows)=>if T.Nl t r then Ox rows.length lo hi fun l h=>k (.c (.sl s r ((rows.drop l).take (h-l)))) σ else none
 | .c (.ref b p)=>
  match Ng σ.bx (.ref b p)with
  |some q=>if T.Nl t q.1 then Ox q.2.length lo hi fun l h=>k (.c (.win b p l (h-l))) σ else none
  |none=>none
 |_=>none
def jr(σ:St)(T:J0)(t:Nat)(x i:XV)(k:K Y):Option Y:=
 match x,da i with
 | .c (.sl s r rows),some i=>if T.Nl t r then(if 0≤i∧i<(rows.length:Int)then k (.c (.Pg s r (rowAt r rows i.toNat) 0)) σ else none)else none
 | .c (.ref b p),some i=>
  match Ng σ.bx (.ref b p)with
  |some q=>if T.Nl t q.1 then(if 0≤i∧i<(q.2.length:Int)then k (.c (.Jk b p i.toNat q.1.n 0)) σ else none)else none
  |none=>none
 | .c (.win b p off n),some i=>
  match Ng σ.bx (.ref b p)with
  |some q=>if T.Nl t q.1 then(if 0≤i∧i<(n:Int)then k (.c (.Jk b p (off+i.toNat) q.1.n 0)) σ else none)else none
  |none=>none
 |_,_=>none
def te(T:J0)(t:Nat)(x:XV)(f:Nat):Option XV:=
 match T.get t with
 |some ⟨_,_,.st fs,_⟩=>
  match fs[f]? with
  |some (o,_)=>match x with
   | .c (.Im b j)=>some (.c (.Im b (j+o)))
   | .c (.Jk b p i sz j)=>some (.c (.Jk b p i sz (j+o)))
   | .c (.Pg s r y j)=>some (.c (.Pg s r y (j+o)))
   |_=>none
  |none=>none
 |_=>none
def ACi(T:J0)(t:Nat)(x:XV)(f:Nat):Option XV:=
 match T.get t,x with
 |some ⟨_,_,.st fs,_⟩,.agg l=>
  match fs[f]? with
  |some (o,u)=>
   match T.get u with
   |some ti=>if ti.desc.agg then some (.agg ((l.drop o).take ti.size))else(l[o]?).map .c
   |none=>none
  |none=>none
 |_,_=>none
def rb(T:J0)(src dst:Nat)(σ:St)(x:XV)(k:K Y):Option Y:=
 match(T.get src).map TI.desc,(T.get dst).map TI.desc,x with
 |some (.int _),some (.int κ),.c (.v (.int _) n)=>k (.c (.v (.int κ) (κ.wrap n))) σ
 |some .str,some .str,.c (.v .str s)=>k (.c (.v .str s)) σ
 |some .str,some (.sl e),.c (.v .str s)=>
  match(T.get e).map TI.desc with
  |some (.int .u8)=>if s.length≤DF then k (.c (.ref σ.bx.length [])) (σ.new (.sl 9 (.int .u8) (s.map fun c=>(c.toNat:Int))))else none
  |_=>none
 |some (.sl e),some .str,.c x=>
  match(T.get e).map TI.desc,NL σ.bx (.sl (.int .u8)) x with
  |some (.int .u8),some l=>k (.c (.v .str (l.map fun n:Int=>UInt8.ofNat n.toNat))) σ
  |_,_=>none
 |_,_,_=>none
def r7(T:J0)(t:Nat)(σ:St)(l c:XV)(k:K Y):Option Y:=
 match(T.get t).map TI.desc,da l,da c with
 |some (.sl e),some n,some m=>
  match J0.ir T e with
  |some r=>if T.Nl t r then(if 0≤n∧n≤m∧m≤(DF:Int)then k (.c (.ref σ.bx.length [])) (σ.new (.sl 9 r (List.replicate n.toNat r.z)))else none)else none
  |none=>none
 |_,_,_=>none
def gJ(T:J0)(fs:List ABg):List AV→List (Nat×XV)→Option (List AV)
 |cs,[]=>some cs
 |cs,(i,x)::l=>
  match fs[i]? with
  |some (o,u)=>
   match T.get u with
   |some ti=>if x.cells.length=ti.size∧ti.size≠0∧x.cells.all AV.known=true then(W7 cs o x.cells).bind fun cs=>gJ T fs cs l else none
   |none=>none
  |none=>none
def YI(r:Ty):Nat→Nat→List (Nat×XV)→List Bx→Nat→Option (List r.D×List Bx×Nat)
 |_,0,[],bx,d=>some ([],bx,d)
 |i,n+1,(j,x)::l,bx,d=>
  if i=j then(AEG d r x bx).bind fun a=>(YI r (i+1) n l a.2.1 a.2.2).map fun b=>(a.1::b.1,b.2)else none
 |i,n+1,[],bx,d=>(YI r (i+1) n [] bx d).map fun b=>(r.z::b.1,b.2)
 |_,0,_::_,_,_=>none
def RI(T:J0)(t n:Nat)(parts:List (Nat×XV))(σ:St)(k:K Y):Option Y:=
 match(T.get t).map TI.desc with
 |some (.sl e)=>
  match J0.ir T e with
  |some r=>if T.Nl t r&&decide (n≤1024)&&decide (r.n≤1024)then(YI r 0 n parts σ.bx 9).bind fun a=>k (.c (.ref a.2.1.length [])) { σ with bx:=a.2.1++[.sl a.2.2 r a.1] }else none
  |none=>none
 |_=>none
def Wu(T:J0)(t:Nat)(σ:St)(x i:XV)(k:K Y):Option Y:=
 match x,da i with
 | .c (.v .str s),some i=>if T.isStr t then if 0≤i∧i<(s.length:Int)then k (.c (.v (.int .u8) ((s.getD i.toNat 0).toNat:Int))) σ else none else none
 |_,_=>none
def oD(x:XV)(i:Nat):Option XV:=
 match x with
 | .Nr l=>match l[i]? with
  |some (.inl a)=>some (.c a)
  |some (.inr q)=>some (.agg q)
  |none=>none
 |_=>none
def Gm(m:Pm):AV→AV
 | .ref b (s::p)=>if m.contains (some b)then .undef else .ref b (s::p)
 | .win b (s::p) i n=>if m.contains (some b)then .undef else .win b (s::p) i n
 | .Jk b (s::p) i sz j=>if m.contains (some b)then .undef else .Jk b (s::p) i sz j
 |x=>x
def U_(m:Pm):XV→XV
 | .c x=> .c (Gm m x)
 | .agg l=> .agg (l.map (Gm m))
 | .Nr l=> .Nr (l.map fun| .inl x=> .inl (Gm m x)| .inr q=> .inr (q.map (Gm m)))
def ACy(m:Pm):Bx→Bx
 | .mem cs=> .mem (cs.map (Gm m))
 |x=>x
def St.ZP(m:Pm)(σ:St):St:=
 match m with
 |[]=>σ
 |_::_=>{ tm:=σ.tm.map (U_ m),bx:=σ.bx.map (ACy m) }
def lZ(c:QB)(args:List XV)(σ:St)(k:K Y):Option Y:=
 if args.length=c.ins.EM.length then
  match c.ins.fit σ.bx.length c.ins.m0 args (c.ins.opens σ.bx)with
  |some (v,m)=>(c.g v).bind fun u=>
   let JT:=YQ m (c.ins.opens σ.bx).length
   let σ1:=({ σ with bx:=c.ins.opens σ.bx }:St).ZP m
   k (eK c.outs.EM u.1 JT) { σ1 with bx:=aD JT 0 c.outs.G3 u.2 (Ct σ1.bx m) }
  |none=>none
 else none
def aa(σ:St)(x:XV)(k:K Y):Option Y:=
 match x with
 | .c (.win b [] off n)=>
  (nJ σ.bx (.win b [] off n)).bind fun s=>k (.c (.ref s.2.2.1.length [])) { σ with bx:=s.2.2.1++[.sl s.2.2.2 s.1 s.2.1] }
 |x=>k x σ
def vJ(l:List XV):Option ABH:=
 match l with
 |[]=>some []
 | .c (.Im b 0)::l=>(vJ l).map fun r=>b::r
 |_=>none
def tJ(big:Bool)(a b:XV)(k:AV→Option Y):Option Y:=
 match a,b with
 | .c (.v (.int j) x),.c (.v (.int j') y)=>
  if j=j' then(if big then k (.v (.int j) (if y>x then y else x))else k (.v (.int j) (if y<x then y else x)))else none
 |_,_=>none
def W5(T:J0)(Γ:Nat→Option QB)(o:Oper)(σ:St)(k:K Y):Option Y:=
 match o.op with
 | .move x=>k (σ.ev x) σ
 | .assign x=>aa σ (σ.ev x) k
 | .pick c a b=>match σ.ev c with
  | .c (.v .bool x)=>ACx x (σ.ev a) (σ.ev b) σ k
  |_=>none
 | .alloc t=>match J0.ir T t with
  |some r=>k (.c (.Im σ.bx.length 0)) (σ.new (.mem (bC r)))
  |none=>none
 | .box t x=>match T.get t with
  |some ti=>if(σ.ev x).cells.length=ti.size∧ti.size≠0∧(σ.ev x).cells.all AV.known=true then k (.c (.Im σ.bx.length 0)) (σ.new (.mem (σ.ev x).cells))else none
  |none=>none
 | .build t parts=>match T.get t,J0.ir T t with
  |some ⟨_,_,.st fs,_⟩,some r=>match gJ T fs (bC r) (parts.toList.map fun q=>(q.1,σ.ev q.2))with
   |some cs=>k (.agg cs) σ
   |none=>none
  |_,_=>none
 | .buildSlice t n parts=>RI T t n (parts.toList.map fun q=>(q.1,σ.ev q.2)) σ k
 | .load t a=>match lI T t σ (σ.ev a)with
  |some x=>k x σ
  |none=>none
 | .store t a x=>match T.get t with
  |some ti=>if(σ.ev x).cells.length=ti.size∧ti.size≠0∧(σ.ev x).cells.all AV.known=true then(match Ly σ (σ.ev a) (σ.ev x)with
   |some σ=>k (.c .undef) σ
   |none=>none)else none
  |none=>none
 | .nilCheck x=>match σ.ev x with
  | .c (.Im b j)=>k (.c (.Im b j)) σ
  | .c (.Jk b p i sz j)=>k (.c (.Jk b p i sz j)) σ
  | .c (.Pg s r y j)=>k (.c (.Pg s r y j)) σ
  | .c (.fn f Kk)=>k (.c (.fn f Kk)) σ
  |_=>none
 | .binOp op t x y _=>uq T t op (σ.ev x) (σ.ev y) fun a=>k (.c a) σ
 | .unOp op _ x=>unX op (σ.ev x) fun a=>k (.c a) σ
 | .convert s d x=>rb T s d σ (σ.ev x) k
 | .makeFunc (.func f) first Kk=>if first.size=0 then(match vJ (Kk.toList.map σ.ev)with
  |some bs=>k (.c (.fn f bs)) σ
  |none=>none)else none
 | .makeSlice t l c=>r7 T t σ (σ.ev l) (σ.ev c) k
 | .slice t x lo hi none=>kg T t σ (σ.ev x) (lo.map σ.ev) (hi.map σ.ev) k
 | .fieldAddr t x f=>match te T t (σ.ev x) f with
  |some y=>k y σ
  |none=>none
 | .field t x f=>match ACi T t (σ.ev x) f with
  |some y=>k y σ
  |none=>none
 | .indexAddr t x i=>jr σ T t (σ.ev x) (σ.ev i) k
 | .index t x i=>Wu T t σ (σ.ev x) (σ.ev i) k
 | .extract x i=>match oD (σ.ev x) i with
  |some y=>k y σ
  |none=>none
 | .call { callee:= .value f,args,.. }=>match σ.ev f with
  | .c (.fn f Kk)=>match Γ f with
   |some c=>lZ c (args.toList.map σ.ev++Kk.map fun b=> .c (.Im b 0)) σ k
   |none=>none
  | .c (.qP f rows)=>match Γ f with
   |some c=>lZ c (args.toList.map σ.ev++rows.map fun q=> .c (.Pg false q.1 q.2 0)) σ k
   |none=>none
  |_=>none
 | .call { callee:= .builtin .len,args,argTypes }=>match args.toList.map σ.ev,argTypes[0]? with
  |[.c (.v .str s)],some t=>if T.isStr t then k (.c (.v (.int .i64) (s.length:Int))) σ else none
  |[.c x],some t=>if T.AGI t then(match lenOf σ.bx x with
   |some n=>k (.c (.v (.int .i64) (n:Int))) σ
   |none=>none)else none
  |_,_=>none
 | .call { callee:= .builtin .append,args,argTypes }=>match args.toList.map σ.ev with
  |[a,x]=>eI T argTypes σ a x k
  |_=>none
 | .call { callee:= .builtin .clear,args,argTypes }=>match args.toList.map σ.ev with
  |[x]=>j0 T argTypes σ x k
  |_=>none
 | .call { callee:= .builtin .max,args,.. }=>match args.toList.map σ.ev with
  |[a,x]=>tJ true a x fun a=>k (.c a) σ
  |_=>none
 | .call { callee:= .builtin .min,args,.. }=>match args.toList.map σ.ev with
  |[a,x]=>tJ false a x fun a=>k (.c a) σ
  |_=>none
 |_=>none
end ops
end Go.Fw
end
section
namespace Go.Fw
section
variable{Y:Type}
structure Zo where
 T:J0
 Γ:Nat→Option QB
 hint:Nat→List Nat
def ga(hint:ABH):XV→Bool
 | .c (.Im b _)=>hint.contains b
 | .c (.Jk b _ _ _ _)=>hint.contains b
 | .c (.Pg _ _ _ _)=>true
 |_=>false
def gz(hint:ABH)(σ:St):Op→Bool
 | .assign x=>match σ.ev x with
  | .c (.win _ [] _ _)=>false
  |_=>true
 | .move _| .pick .. | .nilCheck _| .binOp .. | .unOp .. | .fieldAddr .. | .field .. | .indexAddr .. | .index .. | .extract .. | .build .. =>true
 | .slice _ _ _ _ none=>true
 | .load _ a=>ga hint (σ.ev a)
 | .call { callee:= .builtin .len,.. }=>true
 | .call { callee:= .builtin .max,.. }=>true
 | .call { callee:= .builtin .min,.. }=>true
 |_=>false
def Kd(Γ:Nat→Option QB)(σ:St):Op→List Nat
 | .store _ a _=>match σ.ev a with
  | .c (.Im b _)=>[b]
  | .c (.Jk b _ _ _ _)=>[b]
  |_=>[]
 | .call { callee:= .value f,args,.. }=>match σ.ev f with
  | .c (.fn f Kk)=>match Γ f with
   |some c=>match c.ins.fit σ.bx.length c.ins.m0 (args.toList.map σ.ev++Kk.map fun b=> .c (.Im b 0)) (c.ins.opens σ.bx)with
    |some (_,m)=>m.filterMap id
    |none=>[]
   |none=>[]
  | .c (.qP f rows)=>match Γ f with
   |some c=>match c.ins.fit σ.bx.length c.ins.m0 (args.toList.map σ.ev++rows.map fun q=> .c (.Pg false q.1 q.2 0)) (c.ins.opens σ.bx)with
    |some (_,m)=>m.filterMap id
    |none=>[]
   |none=>[]
  |_=>[]
 | .call { callee:= .builtin .clear,args,.. }=>match args.toList.map σ.ev with
  |[.c (.win b _ _ _)]=>[b]
  |_=>[]
 |_=>[]
def tt:XV:= .c (.v .bool true)
def ff:XV:= .c (.v .bool false)
def ya(C:Zo)(ops:Array Oper)(o:Oper)(kn:St→Option Y)(σ:St):Option Y:=
 match o.guard with
 |none=>W5 C.T C.Γ o σ fun x σ' =>kn (σ'.put o.dst x)
 |some (j,want)=>
  match(ops[j]?).bind (·.dst)with
  |some t=>
   match σ.tm[t]? with
   |some (.c (.v .bool b))=>
    let yes (σ:St):Option Y:=W5 C.T C.Γ o σ fun x σ' =>kn (σ'.put o.dst x)
    let no (σ:St):Option Y:=kn (σ.put o.dst (.Nr []))
    cond b ((if want then yes else no) (σ.put (some t) tt)) ((if want then no else yes) (σ.put (some t) ff))
   |some (.Nr [])=>kn (σ.put o.dst (.Nr []))
   |_=>none
  |none=>none
def sY(C:Zo)(all:Array Oper):List Oper→(St→Option Y)→St→Option Y
 |[],kn,σ=>kn σ
 |o::rest,kn,σ=>ya C all o (fun σ' =>sY C all rest kn σ') σ
def ye(C:Zo)(ops:Array Oper)(i:Nat)(kn:St→Option Y)(σ:St):Option Y:=
 match ops[i]? with
 |none=>none
 |some o=>ya C ops o kn σ
def ji(bx:List Bx)(b:Nat):Bool:=
 match bx[b]? with
 |some .dead=>true
 |some _=>false
 |none=>true
def idle(ops:Array Oper)(σ:St)(o:Oper):Bool:=
 match o.guard with
 |none=>false
 |some (j,want)=>
  match(ops[j]?).bind (·.dst)with
  |some t=>
   match σ.tm[t]? with
   |some (.c (.v .bool b))=>b !=want
   |some (.Nr [])=>true
   |_=>false
  |none=>false
def oS(hint:ABH)(ops:Array Oper)(listed:Array Bool)(σ:St)(i:Nat):Bool:=
 match ops[i]? with
 |some o=>(gz hint σ o.op||idle ops σ o)&&Region.free .any ops listed i
 |none=>false
def sL(f:Nat→List Bool→Option Y):List Nat→List Bool→Option Y
 |[],_=>none
 |[i],ω=>f i ω
 |i::_::_,[]=>f i []
 |i::_::_,true::ω=>f i ω
 |_::j::r,false::ω=>sL f (j::r) ω
def UQ(C:Zo)(hint:ABH)(ops:Array Oper)(kn:List Bool→St→Option Y):Nat→Array Bool→List Bool→St→Option Y
 |fuel,listed,ω,σ=>
  if hint.all (fun b=> !ji σ.bx b)then
   match Region.ready .any ops listed with
   |[]=>kn ω σ
   |rs=>
    match fuel with
    |0=>none
    |fuel+1=>
     match rs.find? (oS hint ops listed σ)with
     |some i=>ye C ops i (fun σ' =>UQ C hint ops kn fuel (listed.setIfInBounds i true) ω σ') σ
     |none=>sL (fun i ω=>
      match ops[i]? with
      |some o=>if(Kd C.Γ σ o.op).all (fun b=> !hint.contains b)then ye C ops i (fun σ' =>UQ C hint ops kn fuel (listed.setIfInBounds i true) ω σ') σ else none
      |none=>none) rs ω
  else none
def first:Code→Nat
 | .region id _ _=>id
 | .seq a _=>first a
 | .cond _ a _=>first a
 | .block _ a=>first a
 | .loop a=>first a
 | .scope a=>first a
 |_=>0
abbrev KN(Y:Type):=List Bool→St→Option Y
def run(C:Zo)(J:Nat→St→Option Y):Code→KN Y→(Nat→KN Y)→KN Y→KN Y
 | .skip,kn,_,_,ω,σ=>kn ω σ
 | .region id ops draw,kn,_,_,ω,σ=>
  if draw then(if Region.noSelect ops then UQ C (C.hint id) ops kn ops.size (Array.replicate ops.size false) ω σ else none)else sY C ops ops.toList (kn ω) σ
 | .seq a b,kn,kx,kr,ω,σ=>run C J a (fun ω σ=>run C J b kn kx kr ω σ) kx kr ω σ
 | .cond (.tmp t) a b,kn,kx,kr,ω,σ=>
  match σ.tm[t]? with
  |some (.c (.v .bool x))=>cond x (run C J a kn kx kr ω (σ.put (some t) tt)) (run C J b kn kx kr ω (σ.put (some t) ff))
  |_=>none
 | .block id body,kn,kx,kr,ω,σ=>run C J body kn (fun j ω σ=>if j=id then kn ω σ else kx j ω σ) kr ω σ
 | .loop body,_,_,_,_,σ=>J (first body) σ
 | .exit id,_,kx,_,ω,σ=>kx id ω σ
 | .ret,_,_,kr,ω,σ=>kr ω σ
 |_,_,_,_,_,_=>none
def find(C:Zo)(J:Nat→St→Option Y)(ℓ :Nat):Code→KN Y→(Nat→KN Y)→KN Y→Option (KN Y)
 | .seq a b,kn,kx,kr=>
  match find C J ℓ a (fun ω σ=>run C J b kn kx kr ω σ) kx kr with
  |some f=>some f
  |none=>find C J ℓ b kn kx kr
 | .cond _ a b,kn,kx,kr=>
  match find C J ℓ a kn kx kr with
  |some f=>some f
  |none=>find C J ℓ b kn kx kr
 | .block id body,kn,kx,kr=>find C J ℓ body kn (fun j ω σ=>if j=id then kn ω σ else kx j ω σ) kr
 | .loop body,_,kx,kr=>
  if first body= ℓ then some (fun ω σ=>run C J body (fun _ σ=>J ℓ σ) kx kr ω σ)else find C J ℓ body (fun _ σ=>J (first body) σ) kx kr
 |_,_,_,_=>none
def ACW(T:J0)(σ:St):ResultVar→Option XV
 | .tmp t=>σ.tm[t]?
 | .cell a t=>match σ.tm[a]? with
  |some x=>lI T t σ x
  |none=>none
def vX:List XV→Option (List (AV ⊕ List AV))
 |[]=>some []
 | .c x::l=>(vX l).map fun r=> .inl x::r
 | .agg q::l=>(vX l).map fun r=> .inr q::r
 |_=>none
def nr(T:J0)(σ:St)(rs:List ResultVar):Option XV:=
 match rs.mapM (ACW T σ)with
 |some [x]=>some x
 |some l=>(vX l).map .Nr
 |none=>none
def Ti:Nat→Nat→List BP→Pm
 |_,_,[]=>[]
 |i,n,p::l=>(match p with| .gone=>none|_=>if i<n then some i else none)::Ti (i+1) n l
def qw(T:J0)(c:QB)(rs:List ResultVar)(σ:St):Option c.outs.V:=
 (nr T σ rs).bind fun x=>(c.outs.fit σ.bx.length (Ti 0 c.ins.G3.length c.outs.G3) [x] (c.outs.opens σ.bx)).map fun q=>q.1
def Cy(C:Zo)(c:QB)(fn:Func)(J:Nat→St→Option c.outs.V)(ω:List Bool)(v:c.ins.V):Option c.outs.V:=
 match fn.body with
 |some code=>run C J code (fun _=>qw C.T c fn.results.toList) (fun _ _ _=>none) (fun _=>qw C.T c fn.results.toList) ω (c.ins.st fn.ntmps v)
 |none=>none
def Hf(C:Zo)(c:QB)(fn:Func)(J:Nat→St→Option c.outs.V)(ℓ :Nat)(ω:List Bool)(σ:St):Option c.outs.V:=
 match fn.body with
 |some code=>
  match find C J ℓ code (fun _=>qw C.T c fn.results.toList) (fun _ _ _=>none) (fun _=>qw C.T c fn.results.toList)with
  |some f=>f ω σ
  |none=>none
 |none=>none
def AV.qH(b:Nat)(r:Ty)(rows:List r.D):AV→AV
 | .ref k []=>if k=b then .sl true r rows else .ref k []
 |x=>x
def XV.qH(b:Nat)(r:Ty)(rows:List r.D):XV→XV
 | .c x=> .c (x.qH b r rows)
 |x=>x
def Bx.qH(b:Nat)(r:Ty)(rows:List r.D):Bx→Bx
 | .mem cs=> .mem (cs.map (AV.qH b r rows))
 |x=>x
def St.qH(b:Nat)(σ:St):St:=
 match σ.bx[b]? with
 |some (.sl _ r rows)=>{ tm:=σ.tm.map (XV.qH b r rows),bx:=(σ.bx.set b .dead).map (Bx.qH b r rows) }
 |_=>σ
def QC:List AP→List AV→St→St
 | .sl true _::l,.ref b []::xs,σ=>QC l xs (σ.qH b)
 |_::l,_::xs,σ=>QC l xs σ
 |_,_,σ=>σ
def QJ(bs:List BP):List (Nat×XP)→St→St
 |[],σ=>σ
 |(i,.c (.sl true r))::l,σ=>
  match σ.tm[i]? with
  |some (.c x)=>QJ bs l (QC [.sl true r] [x] σ)
  |_=>QJ bs l σ
 |(i,.c (.ptr k _))::l,σ=>
  match bs[k]?,σ.tm[i]? with
  |some (.mem ps),some (.c (.Im b _))=>
   match σ.bx[b]? with
   |some (.mem cs)=>QJ bs l (QC ps cs σ)
   |_=>QJ bs l σ
  |_,_=>QJ bs l σ
 |_::l,σ=>QJ bs l σ
def AV.rY:AV→Bool
 | .ref _ _| .win _ _ _ _| .sl _ _ _| .nil=>true
 |_=>false
def St.forget(b j:Nat)(σ:St):St:=
 match σ.bx[b]? with
 |some (.mem cs)=>
  match cs[j]? with
  |some x=>if x.rY then{ σ with bx:=σ.bx.set b (.mem (cs.set j (.ref σ.bx.length [])))++[.dead] }else σ
  |none=>σ
 |_=>σ
def Xe(bs:List BP)(b:Nat):Nat→List AP→St→St
 |_,[],σ=>σ
 |j,p::l,σ=>Xe bs b (j+1) l (match p with
  | .ref q=>match bs[q]? with
   |some .gone=>σ.forget b j
   |_=>σ
  |_=>σ)
def dU(bs:List BP):List (Nat×XP)→St→St
 |[],σ=>σ
 |(i,p)::l,σ=>dU bs l (match p with
  | .c (.ptr k _)=>match bs[k]?,σ.tm[i]? with
   |some (.mem ps),some (.c (.Im b _))=>Xe bs b 0 ps σ
   |_,_=>σ
  |_=>σ)
def jump(nb:Nat)(s:BE)(f:s.V→Option Y)(σ:St):Option Y:=
 if nb≤s.G3.length then
  let σ:=dU s.G3 s.EM (QJ s.G3 s.EM σ)
  (s.fit σ.bx.length (Ti 0 nb s.G3) σ.tm (s.opens σ.bx)).bind fun q=>f q.1
 else none
end
end Go.Fw
end
section
namespace Go.Fw
def Bb(w:World)(b o:Nat)(cs:List Value):Prop:= ∀j v,cs[j]? =some v→w.cell? ⟨b,o+j,none⟩=some v
def Rd(w:World)(B:Nat→Prop):(t:Ty)→List Value→t.D→Prop
 | .int k,vs,x=>vs=[.int k x]
 | .bool,vs,x=>vs=[.bool x]
 | .str,vs,x=>vs=[.string ⟨x.toArray⟩]
 | .sl r,vs,x=> ∃a cap,vs=[.slice a (List.length x) cap]∧List.length x≤cap∧(List.length x=0∨ ∃b o,a=some ⟨b,o,none⟩∧B b∧
  ∀(i:Nat) (y:r.D),x[i]? =some y→ ∃cs,cs.length=r.n∧Bb w b (o+i*r.n) cs∧Rd w B r cs y)
 | .unit,vs,_=>vs=[]
 | .cons c r,vs,x=> ∃v l,vs=v::l∧Rd w B c [v] x.1∧Rd w B r l x.2
def uX(fr:ABg)(n:Nat):Prop:= ∀i,i<n→ ¬(fr.1≤i∧i<fr.2)
def mk:Ty→Nat
 | .int .u8=>0
 |_=>1
def Ow(w:World)(S:Nat→Prop):(d:Nat)→(t:Ty)→List Value→t.D→List Nat→Prop
 |0,.sl r,vs,x,F=>Rd w S (.sl r) vs x∧F=[]
 |d+1,.sl r,vs,x,F=> ∃a cap,vs=[.slice a (List.length x) cap]∧List.length x≤cap∧
  ((
   cap=0∧F=[])∨ ∃b o arr ty fr Fs,a=some ⟨b,o,none⟩∧w.heap[b]? =some (.cells arr ty fr)∧o+cap*r.n≤arr.size∧uX fr (arr.size+mk r)∧
   F=b::List.flatten Fs∧Fs.length=List.length x∧
   ∀(i:Nat) (y:r.D) (G:ABH),x[i]? =some y→Fs[i]? =some G→ ∃cs,cs.length=r.n∧Bb w b (o+i*r.n) cs∧Ow w S d r cs y G)
 |d,.cons c r,vs,x,F=> ∃v l F1 F2,vs=v::l∧F=F1++F2∧Ow w S d c [v] x.1 F1∧Ow w S d r l x.2 F2
 |_,.unit,vs,_,F=>vs=[]∧F=[]
 |_,.int k,vs,x,F=>vs=[.int k x]∧F=[]
 |_,.bool,vs,x,F=>vs=[.bool x]∧F=[]
 |_,.str,vs,x,F=>vs=[.string ⟨x.toArray⟩]∧F=[]
theorem kN{w B}:∀{t:Ty} {vs x},Rd w B t vs x→vs.length=t.n
 | .int _,_,_,h=>by simp only[Rd]at h;subst h;rfl
 | .bool,_,_,h=>by simp only[Rd]at h;subst h;rfl
 | .str,_,_,h=>by simp only[Rd]at h;subst h;rfl
 | .sl _,_,_,h=>by simp only[Rd]at h;obtain⟨_,_,h,_⟩:=h;subst h;rfl
 | .unit,_,_,h=>by simp only[Rd]at h;subst h;rfl
 | .cons _ _,_,_,h=>by
  simp only[Rd]at h;obtain⟨_,_,rfl,_,h⟩:=h;simp[Ty.n,kN h]
theorem Xz{w S}:∀{d} {t:Ty} {vs x F},Ow w S d t vs x F→vs.length=t.n
 |_,.int _,_,_,_,h=>by simp only[Ow]at h;rw[h.1];rfl
 |_,.bool,_,_,_,h=>by simp only[Ow]at h;rw[h.1];rfl
 |_,.str,_,_,_,h=>by simp only[Ow]at h;rw[h.1];rfl
 |0,.sl _,_,_,_,h=>by grind[Ow,kN]
 |_+1,.sl _,_,_,_,h=>by simp only[Ow]at h;obtain⟨_,_,h,_⟩:=h;subst h;rfl
 |_,.unit,_,_,_,h=>by simp only[Ow]at h;rw[h.1];rfl
 |_,.cons _ _,_,_,_,h=>by
  simp only[Ow]at h;obtain⟨_,_,_,_,rfl,_,_,h⟩:=h;simp[Ty.n,Xz h]
theorem Bb.of_block{w w':World}{b o:Nat}{cs:List Value}(h:Bb w b o cs)(hb:w'.heap[b]? =w.heap[b]?):Bb w' b o cs:=
 fun j v hj=>(World.cell?_of_block (a:=⟨b,o+j,none⟩) hb).trans (h j v hj)
theorem F5{w w':World}{B B':Nat→Prop}(hB:∀b,B b→B' b)(hw:∀b,B b→w'.heap[b]? =w.heap[b]?):∀{t:Ty} {vs x},Rd w B t vs x→Rd w' B' t vs x
 | .int _,_,_,h=>by grind[Rd]
 | .bool,_,_,h=>by grind[Rd]
 | .str,_,_,h=>by grind[Rd]
 | .unit,_,_,h=>by grind[Rd]
 | .sl r,_,_,h=>by
  simp only[Rd]at h⊢;obtain⟨a,cap,h1,h2,h3⟩:=h;refine⟨a,cap,h1,h2,h3.imp id ?_⟩
  rintro⟨b,o,ha,hb,h⟩
  refine⟨b,o,ha,hB b hb,fun i y hy=> ?_⟩;obtain⟨cs,hl,hc,hr⟩:=h i y hy;exact⟨cs,hl,hc.of_block (hw b hb),F5 hB hw hr⟩
 | .cons _ _,_,_,h=>by
  simp only[Rd]at h⊢;obtain⟨v,l,h1,h2,h3⟩:=h;exact⟨v,l,h1,F5 hB hw h2,F5 hB hw h3⟩
theorem EU{w w':World}{S S':Nat→Prop}(hS:∀b,S b→S' b)(hw:∀b,S b→w'.heap[b]? =w.heap[b]?):
  ∀{d} {t:Ty} {vs x F},(∀b∈F,w'.heap[b]? =w.heap[b]?)→Ow w S d t vs x F→Ow w' S' d t vs x F
 |_,.int _,_,_,_,_,h=>by grind[Ow]
 |_,.bool,_,_,_,_,h=>by grind[Ow]
 |_,.str,_,_,_,_,h=>by grind[Ow]
 |_,.unit,_,_,_,_,h=>by grind[Ow]
 |0,.sl r,_,_,_,_,h=>by
  grind[Ow,F5]
 |d+1,.sl r,_,x,F,hF,h=>by
  simp only[Ow]at h⊢;obtain⟨a,cap,h1,h2,h3⟩:=h;refine⟨a,cap,h1,h2,h3.imp id ?_⟩
  rintro⟨b,o,arr,ty,fr,Fs,ha,hb,h4,h5,h6,h7,h⟩
  subst h6;have hbb:=hF b (by simp);refine⟨b,o,arr,ty,fr,Fs,ha,hbb.trans hb,h4,h5,rfl,h7,fun i y G hy hG=> ?_⟩;obtain⟨cs,hl,hc,hr⟩:=h i y G hy hG;refine⟨cs,hl,hc.of_block hbb,EU hS hw (fun c hc=>hF c ?_) hr⟩;grind[List.mem_cons_of_mem,List.mem_flatten,List.mem_of_getElem?]
 |_,.cons _ _,_,_,_,hF,h=>by
  simp only[Ow]at h⊢;obtain⟨v,l,F1,F2,h1,h2,h3,h4⟩:=h;subst h2;exact⟨v,l,F1,F2,h1,rfl,EU hS hw (fun c hc=>hF c (by simp[hc])) h3,EU hS hw (fun c hc=>hF c (by simp[hc])) h4⟩
theorem Xr{w:World}{S:Nat→Prop}:∀{d} {t:Ty} {vs x F},Ow w S d t vs x F→Rd w (fun b=>S b∨b∈F) t vs x
 |_,.int _,_,_,_,h=>by grind[Ow,Rd]
 |_,.bool,_,_,_,h=>by grind[Ow,Rd]
 |_,.str,_,_,_,h=>by grind[Ow,Rd]
 |_,.unit,_,_,_,h=>by grind[Ow,Rd]
 |0,.sl r,_,_,_,h=>by
  simp only[Ow]at h;simp_all
 |d+1,.sl r,_,x,F,h=>by
  simp only[Ow]at h;simp only[Rd];obtain⟨a,cap,h1,h2,h3⟩:=h;refine⟨a,cap,h1,h2,?_⟩;rcases h3 with⟨hc,_⟩|⟨b,o,arr,ty,fr,Fs,ha,hb,h4,h5,h6,h7,h⟩
  ·omega
  ·refine .inr ⟨b,o,ha,.inr (by simp[h6]),fun i y hy=> ?_⟩
   have hi:i<Fs.length:=by
    grind
   obtain⟨cs,hl,hc,hr⟩:=h i y Fs[i] hy (AMJ hi);refine⟨cs,hl,hc,F5 ?_ (fun _ _=>rfl) (Xr hr)⟩;grind[List.mem_cons_of_mem,List.mem_flatten,List.getElem_mem]
 |_,.cons _ _,_,_,_,h=>by
  simp only[Ow]at h;simp only[Rd];obtain⟨v,l,F1,F2,h1,h2,h3,h4⟩:=h;subst h2;refine⟨v,l,h1,F5 ?_ (fun _ _=>rfl) (Xr h3),F5 ?_ (fun _ _=>rfl) (Xr h4)⟩
  all_goals grind
theorem KU{w:World}{S:Nat→Prop}:∀{d d'} {t:Ty} {vs x F},d≤d'→Ow w S d' t vs x F→
  ∃F1 F2,F.Perm (F1++F2)∧Ow w (fun b=>S b∨b∈F2) d t vs x F1
 |_,_,.int _,_,_,_,_,h=>by simp only[Ow]at h⊢;simp_all
 |_,_,.bool,_,_,_,_,h=>by simp only[Ow]at h⊢;simp_all
 |_,_,.str,_,_,_,_,h=>by simp only[Ow]at h⊢;simp_all
 |_,_,.unit,_,_,_,_,h=>by simp only[Ow]at h⊢;simp_all
 |0,d',.sl r,_,x,F,_,h=>by
  refine⟨[],F,by simp,?_⟩;simp only[Ow];exact⟨Xr h,trivial⟩
 |d+1,0,.sl r,_,x,F,hd,h=>by omega
 |d+1,d'+1,.sl r,_,x,F,hd,h=>by
  simp only[Ow]at h⊢;obtain⟨a,cap,h1,h2,h3⟩:=h;rcases h3 with⟨hc,hF⟩|⟨b,o,arr,ty,fr,Fs,ha,hb,h4,h5,h6,h7,h⟩
  ·simp_all
  ·have key:∀(n:Nat) (Fs:List ABH) (y:List r.D),Fs.length=n→y.length=n→(∀(i:Nat) (z:r.D) (G:ABH),y[i]? =some z→Fs[i]? =some G→ ∃cs,cs.length=r.n∧Bb w b (o+i*r.n) cs∧Ow w S d' r cs z G)→
     ∃(Gs:List ABH) (F2:ABH),Fs.flatten.Perm (Gs.flatten++F2)∧Gs.length=n∧ ∀(i:Nat) (z:r.D) (G:ABH),y[i]? =some z→Gs[i]? =some G→ ∃cs,cs.length=r.n∧Bb w b (o+i*r.n) cs∧Ow w (fun b=>S b∨b∈F2) d r cs z G:=by
    intro n
    induction n with
    |zero=>
     simp_all
    |succ n ih=>
     intro Fs y hF hy hh;obtain⟨Fs',G0,rfl⟩:∃l a,Fs=l++[a]:=⟨Fs.dropLast,Fs.getLast (by grind),(List.dropLast_concat_getLast _).symm⟩;obtain⟨y',z0,rfl⟩:∃l a,y=l++[a]:=⟨y.dropLast,y.getLast (by grind),(List.dropLast_concat_getLast _).symm⟩;simp only[AOq,AN0,APv]at hF hy;obtain⟨Gs,F2,hp,hl,hg⟩:=ih Fs' y' (by omega) (by omega) (fun i z G hz hG=>hh i z G
      (by grind) (by grind))
     obtain⟨cs,ZF,hc,ho⟩:=hh n z0 G0 (by simp_all) (by simp_all);obtain⟨H1,H2,hhp,hho⟩:=KU (d:=d) (d':=d') (by omega) ho;refine⟨Gs++[H1],F2++H2,?_,by simp[hl],?_⟩
     ·grind
     ·intro i z G hz hG
      by_cases hi:i<n
      ·rw[AQS (by omega)]at hz hG
       obtain⟨cs,e1,e2,e3⟩:=hg i z G hz hG;exact⟨cs,e1,e2,EU (by grind) (fun _ _=>rfl) (fun _ _=>rfl) e3⟩
      ·have:i=n:=by
        grind
       subst this;rw[AQm (by omega)]at hz hG;simp[show i-y'.length=0 by omega,show i-Gs.length=0 by omega]at hz hG;subst hz hG;exact⟨cs,ZF,hc,EU (by grind) (fun _ _=>rfl) (fun _ _=>rfl) hho⟩
   obtain⟨Gs,F2,hp,hl,hg⟩:=key _ Fs x h7 rfl h;refine⟨b::Gs.flatten,F2,?_,a,cap,h1,h2,.inr ⟨b,o,arr,ty,fr,Gs,ha,hb,h4,h5,rfl,hl,hg⟩⟩;simp_all
 |d,d',.cons _ _,_,_,_,hd,h=>by
  simp only[Ow]at h⊢;obtain⟨v,l,F1,F2,h1,h2,h3,h4⟩:=h;obtain⟨A1,A2,pa,oa⟩:=KU hd h3;obtain⟨B1,B2,pb,ob⟩:=KU hd h4;refine⟨A1++B1,A2++B2,?_,v,l,A1,B1,h1,rfl,EU (by grind) (fun _ _=>rfl) (fun _ _=>rfl) oa,EU (by grind) (fun _ _=>rfl) (fun _ _=>rfl) ob⟩;grind
def RB(w:World):(t:Ty)→List Value→t.D→Nat→Prop
 | .sl r,vs,x,c=> ∃b o len cap,vs=[.slice (some ⟨b,o,none⟩) len cap]∧0<List.length x∧
  (c=b∨ ∃(i:Nat) (y:r.D) (cs:List Value),x[i]? =some y∧cs.length=r.n∧Bb w b (o+i*r.n) cs∧RB w r cs y c)
 | .cons c r,vs,x,d=> ∃v l,vs=v::l∧(RB w c [v] x.1 d∨RB w r l x.2 d)
 |_,_,_,_=>False
theorem Bb.unique{w:World}{b o:Nat}{cs ds:List Value}(h:Bb w b o cs)(k:Bb w b o ds)(hl:cs.length=ds.length):cs=ds:=by
 apply List.ext_getElem hl;intro i h1 h2;have e1:=h i _ (AMJ h1);have e2:=k i _ (AMJ h2);simp_all
theorem tE{w:World}{B:Nat→Prop}{c:Nat}:∀{t:Ty} {vs x},Rd w B t vs x→RB w t vs x c→B c
 | .int _,_,_,_,h=>by simp[RB]at h
 | .bool,_,_,_,h=>by simp[RB]at h
 | .str,_,_,_,h=>by simp[RB]at h
 | .unit,_,_,_,h=>by simp[RB]at h
 | .sl r,_,x,h,k=>by
  simp only[Rd]at h;simp only[RB]at k;obtain⟨a,cap,rfl,_,h⟩:=h;obtain⟨b,o,len,cap',e,hl,k⟩:=k;simp only[ARF,Value.slice.injEq,ARx]at e;obtain⟨rfl,rfl,rfl⟩:=e;rcases h with h|⟨b',o',e,hb,h⟩
  ·omega
  simp only[AMO,Addr.mk.injEq,ARx]at e;obtain⟨rfl,rfl⟩:=e;rcases k with rfl|⟨i,y,cs,hy,ZF,hca,k⟩
  ·omega
  ·obtain⟨ds,d1,d2,d3⟩:=h i y hy
   have:=hca.unique d2 (by omega);subst this;exact tE d3 k
 | .cons _ _,_,_,h,k=>by
  simp only[Rd]at h;simp only[RB]at k;obtain⟨v,l,rfl,h1,h2⟩:=h;obtain⟨v',l',e,k⟩:=k;cases e;exact k.elim (tE h1) (tE h2)
theorem nA{w w':World}{c:Nat}:∀{t:Ty} {vs x},(∀d,RB w t vs x d→w'.heap[d]? =w.heap[d]?)→RB w t vs x c→RB w' t vs x c
 | .int _,_,_,_,h=>by simp[RB]at h
 | .bool,_,_,_,h=>by simp[RB]at h
 | .str,_,_,_,h=>by simp[RB]at h
 | .unit,_,_,_,h=>by simp[RB]at h
 | .sl r,_,x,h,k=>by
  simp only[RB]at h k⊢;obtain⟨b,o,len,cap,e,hl,k⟩:=k;refine⟨b,o,len,cap,e,hl,?_⟩;rcases k with rfl|⟨i,y,cs,hy,ZF,hca,k⟩
  ·omega
  ·have hb:=h b ⟨b,o,len,cap,e,hl,.inl rfl⟩
   exact .inr ⟨i,y,cs,hy,ZF,hca.of_block hb,nA (fun d hd=>h d ⟨b,o,len,cap,e,hl,.inr ⟨i,y,cs,hy,ZF,hca,hd⟩⟩) k⟩
 | .cons _ _,_,_,h,k=>by
  simp only[RB]at h k⊢;obtain⟨v,l,e,k⟩:=k;refine⟨v,l,e,k.elim (fun k=> .inl (nA (fun d hd=>h d ⟨v,l,e,.inl hd⟩) k)) (fun k=> .inr (nA (fun d hd=>h d ⟨v,l,e,.inr hd⟩) k))⟩
end Go.Fw
end
section
namespace Go.Fw
def CX{α β:Type}(R:α→β→Prop):List α→List β→Prop
 |[],[]=>True
 |a::l,b::m=>R a b∧CX R l m
 |_,_=>False
theorem CX.len{α β:Type}{R:α→β→Prop}:∀{l:List α} {m:List β},CX R l m→l.length=m.length
 |[],[],_=>rfl
 |_::_,_::_,h=>by simp[CX.len h.2]
theorem CX.get{α β:Type}{R:α→β→Prop}:∀{l:List α} {m:List β} {i:Nat} {a:α},CX R l m→l[i]? =some a→ ∃b,m[i]? =some b∧R a b
 |_::_,_::_,0,a,h,e=>by simp at e;subst e;exact⟨_,rfl,h.1⟩
 |_::_,_::_,i+1,a,h,e=>by
  obtain⟨b,hb,hr⟩:=CX.get (i:=i) h.2 (by simpa using e);simp_all
 |[],[],_,_,_,e=>by simp at e
theorem CX.imp{α β:Type}{R S:α→β→Prop}(h:∀a b,R a b→S a b):∀{l:List α} {m:List β},CX R l m→CX S l m
 |[],[],_=>trivial
 |_::_,_::_,k=>⟨h _ _ k.1,CX.imp h k.2⟩
structure Env where
 ID:Nat→Nat
 IE:Nat→Value
 T:Nat→Prop
 S:Nat→Prop
def JB(w:World):Value→List Wo→Option Value
 |h,[]=>some h
 | .slice (some a) _ _,s::p=>
  match w.cell? ⟨a.block,a.off+s.i*s.sz+s.j,none⟩with
  |some h=>JB w h p
  |none=>none
 |_,_::_=>none
def DG:(r:Ty)→List r.D→List Wo→Prop
 |_,_,[]=>True
 |r,rows,s::p=>s.i<rows.length∧s.sz=r.n∧
  match BN r s.j (rowAt r rows s.i)with
  |some ⟨.sl q,x⟩=>DG q x p
  |_=>False
def VP(sz off n:Nat)(a:Option Addr)(cap:Nat):Value:=
 .slice (if cap=off then a else a.map (·.add (off*sz))) n (cap-off)
def isSlice:Value→Bool
 | .slice .. =>true
 |_=>false
def bz:Value→Bool
 | .pointer (some ⟨_,_,none⟩)=>true
 |_=>false
def RA(E:Env)(w:World)(q:(r:Ty)×r.D)(p:Value):Prop:= ∃bb o cs,p= .pointer (some ⟨bb,o,none⟩)∧E.T bb∧cs.length=q.1.n∧Bb w bb o cs∧Rd w E.T q.1 cs q.2
def VR(E:Env)(w:World)(vw:List Bx):AV→Value→Prop
 | .v t x,v=>t.scalar=true∧Rd w (fun _=>False) t [v] x
 | .sl s r x,v=>Rd w (if s then E.S else E.T) (.sl r) [v] x
 | .nil,v=>v= .slice none 0 0
 | .ref b p,v=>isSlice v=true∧match vw[b]? with
  |some (.sl _ r rows)=>DG r rows p∧(∃q,HE r rows p=some q)∧JB w (E.IE b) p=some v
  |some _=>True
  |none=>False
 | .win b p off n,v=>isSlice v=true∧match vw[b]? with
  |some (.sl _ r rows)=>DG r rows p∧ ∃q ys a len cap,HE r rows p=some ⟨q,ys⟩∧off+n≤List.length ys∧JB w (E.IE b) p=some (.slice a len cap)∧v=VP q.n off n a cap
  |some _=>True
  |none=>False
 | .Im b j,v=>b<vw.length∧v= .pointer (some ⟨E.ID b,j,none⟩)
 | .Jk b p i sz j,v=>bz v=true∧match vw[b]? with
  |some (.sl _ r rows)=>DG r rows p∧ ∃q ys bb o len cap,HE r rows p=some ⟨q,ys⟩∧i<List.length ys∧JB w (E.IE b) p=some (.slice (some ⟨bb,o,none⟩) len cap)∧v= .pointer (some ⟨bb,o+i*sz+j,none⟩)
  |some _=>True
  |none=>False
 | .Pg s r x j,v=> ∃bb o cs,v= .pointer (some ⟨bb,o+j,none⟩)∧(if s then E.S else E.T) bb∧cs.length=r.n∧Bb w bb o cs∧Rd w (if s then E.S else E.T) r cs x
 | .fn f Kk,v=>(∀b∈Kk,b<vw.length)∧v= .func (.func f) #[] (Kk.map fun b=>Value.pointer (some ⟨E.ID b,0,none⟩)).toArray
 | .qP f rows,v=> ∃ps:List Value,v= .func (.func f) #[] ps.toArray∧CX (RA E w) rows ps
 | .xj,v=>v= .pointer none
 | .undef,_=>True
def iy(E:Env)(w:World)(vw:List Bx)(l:List AV)(vs:List Value):Prop:=CX (VR E w vw) l vs
def TR(E:Env)(w:World)(vw:List Bx):AV ⊕ List AV→Value→Prop
 | .inl x,v=>VR E w vw x v
 | .inr q,v=> ∃vs,v= .agg vs∧iy E w vw q vs.toList
def XR(E:Env)(w:World)(vw:List Bx):XV→Value→Prop
 | .c x,v=>VR E w vw x v
 | .agg l,v=> ∃vs,v= .agg vs∧iy E w vw l vs.toList
 | .Nr l,v=> ∃vs,v= .tuple vs∧CX (TR E w vw) l vs.toList
def pE(E:Env)(w:World)(vw:List Bx)(k:Nat):Bx→List Nat→Prop
 | .mem cs,F=>F=[E.ID k]∧ ∃arr ty fr,w.heap[E.ID k]? =some (.cells arr ty fr)∧uX fr (arr.size+1)∧iy E w vw cs arr.toList
 | .sl d r rows,F=>1≤d∧Ow w E.S d (.sl r) [E.IE k] rows F
 | .dead,F=>F=[]
structure Sep (E:Env) (w:World) (F:ABH):Prop where
 nodup:F.Nodup
 free:∀c∈F,¬E.T c
 lt:∀c∈F,c<w.heap.size
 st:∀c,E.S c→E.T c
 cf:∀c,E.T c→c<w.heap.size
def Ns(E:Env)(w:World)(vw bx:List Bx)(Fs:List ABH):Prop:=
 Fs.length=bx.length∧ ∀k B F,bx[k]? =some B→Fs[k]? =some F→pE E w vw k B F
def C7(E:Env)(w:World)(vw bx:List Bx)(G:ABH):Prop:=
 ∃Fs,Ns E w vw bx Fs∧Sep E w (Fs.flatten++G)
structure Le (E E':Env):Prop where
 ID:E'.ID=E.ID
 IE:E'.IE=E.IE
 T:∀c,E.T c→E'.T c
 S:∀c,E.S c→E'.S c
 Tof:∀c,E'.T c→E.T c∨E'.S c
 y_:∀c,E'.S c→E.S c∨ ¬E.T c
theorem Le.refl(E:Env):Le E E:=⟨rfl,rfl,fun _ h=>h,fun _ h=>h,fun _ h=> .inl h,fun _ h=> .inl h⟩
theorem Le.trans{E E' E'':Env}(h:Le E E')(k:Le E' E''):Le E E'':=
 ⟨k.ID.trans h.ID,k.IE.trans h.IE,fun c hc=>k.T c (h.T c hc),fun c hc=>k.S c (h.S c hc),
  fun c hc=>(k.Tof c hc).elim (fun h' =>(h.Tof c h').imp id (k.S c)) .inr,
  fun c hc=>(k.y_ c hc).elim (h.y_ c) (fun h' => .inr fun ht=>h' (h.T c ht))⟩
theorem eL{w B}:∀{r:Ty} {cs x j t y},Rd w B r cs x→BN r j x=some ⟨t,y⟩→ ∃v,cs[j]? =some v∧Rd w B t [v] y
 | .cons c r,cs,x,0,t,y,h,e=>by
  simp only[Rd]at h;obtain⟨v,l,rfl,h1,h2⟩:=h;simp only[BN,AMO,APl]at e;grind
 | .cons c r,cs,x,j+1,t,y,h,e=>by
  simp only[Rd]at h;obtain⟨v,l,rfl,h1,h2⟩:=h;simp only[BN]at e;obtain⟨u,hu,hr⟩:=eL h2 e;simp_all
 | .int k,cs,x,0,t,y,h,e=>by
  simp only[BN,AMO,APl]at e;obtain⟨rfl,e⟩:=e;obtain rfl:=ARM e;simp only[Rd]at h;subst h;exact⟨_,rfl,by rfl⟩
 | .bool,cs,x,0,t,y,h,e=>by
  simp only[BN,AMO,APl]at e;obtain⟨rfl,e⟩:=e;obtain rfl:=ARM e;simp only[Rd]at h;subst h;exact⟨_,rfl,by rfl⟩
 | .str,cs,x,0,t,y,h,e=>by
  simp only[BN,AMO,APl]at e;obtain⟨rfl,e⟩:=e;obtain rfl:=ARM e;simp only[Rd]at h;subst h;exact⟨_,rfl,by rfl⟩
 | .sl r,cs,x,0,t,y,h,e=>by
  simp only[BN,AMO,APl]at e;obtain⟨rfl,e⟩:=e;obtain rfl:=ARM e;have h':=h;simp only[Rd]at h;grind
 | .unit,_,_,_,_,_,_,e=>by simp[BN]at e
 | .int _,_,_,_+1,_,_,_,e=>by simp[BN]at e
 | .bool,_,_,_+1,_,_,_,e=>by simp[BN]at e
 | .str,_,_,_+1,_,_,_,e=>by simp[BN]at e
 | .sl _,_,_,_+1,_,_,_,e=>by simp[BN]at e
theorem RO{r:Ty}{rows:List r.D}{i:Nat}(h:i<rows.length):rows[i]? =some (rowAt r rows i):=by
 simp[rowAt,h]
theorem nK{w:World}{B:Nat→Prop}:∀{p:List Wo} {r:Ty} {h:Value} {rows:List r.D} {q:Ty} {ys:List q.D},
  Rd w B (.sl r) [h] rows→DG r rows p→HE r rows p=some ⟨q,ys⟩→
  ∃h',(∀w':World,(∀b,B b→w'.heap[b]? =w.heap[b]?)→JB w' h p=some h')∧Rd w B (.sl q) [h'] ys
 |[],r,h,rows,q,ys,hr,_,hg=>by
  simp only[HE,AMO,APl]at hg;obtain⟨rfl,e⟩:=hg;obtain rfl:=ARM e;exact⟨h,fun w' _=>by rfl,hr⟩
 |s::p,r,h,rows,q,ys,hr,hp,hg=>by
  simp only[DG]at hp;obtain⟨hi,Pe,hp⟩:=hp;simp only[HE]at hg;simp only[Rd]at hr;obtain⟨a,cap,hh,_,hr⟩:=hr;obtain rfl:=(List.cons.inj hh).1;rcases hr with hr|⟨b,o,rfl,hb,hr⟩
  ·omega
  obtain⟨cs,hl,hc,hrow⟩:=hr s.i _ (RO hi);split at hg
  ·rename_i q' x' fg
   rw[fg]at hp;obtain⟨v,hv,hrv⟩:=eL hrow fg;obtain⟨h',hh',X5⟩:=nK hrv hp hg;refine⟨h',fun w' qc=> ?_,X5⟩;simp only[JB];have Zu:w'.cell? ⟨b,o+s.i*s.sz+s.j,none⟩=some v:=by
    rw[Pe];exact(World.cell?_of_block (a:=⟨b,_,none⟩) (qc b hb)).trans (hc _ _ hv)
   simp_all
  simp_all
theorem DB{w:World}{h:Value}:JB w h []=some h:=by rfl
structure TF (E:Env) (w:World) (vw:List Bx) (E':Env) (w':World) (vw':List Bx):Prop where
 len:vw.length≤vw'.length
 ID:∀b,b<vw.length→E'.ID b=E.ID b
 T:∀b,E.T b→E'.T b
 S:∀b,E.S b→E'.S b
 st:∀b,E.S b→E.T b
 heap:∀b,E.T b→w'.heap[b]? =w.heap[b]?
 box:∀b d r rows,b<vw.length→vw'[b]? =some (.sl d r rows)→ ∃d0 Ro,vw[b]? =some (.sl d0 r Ro)∧
  ∀p,DG r Ro p→ ∀q ys,HE r Ro p=some ⟨q,ys⟩→DG r rows p∧(∃uC,HE r rows p=some ⟨q,uC⟩∧List.length uC=List.length ys)∧
   ∀h,JB w (E.IE b) p=some h→JB w' (E'.IE b) p=some h
theorem Po{α:Type}{l l':List α}{b:Nat}{x:α}(h:l.length≤l'.length)(e:l[b]? =some x):∃y,l'[b]? =some y:=
 ⟨l'[b]'(ARl (AMX.1 e).1 h),AMJ _⟩
theorem GU{E E':Env}{w w':World}{vw vw':List Bx}(k:TF E w vw E' w' vw'):∀{x:AV} {v:Value},VR E w vw x v→VR E' w' vw' x v:=by
 intro x v h;cases x with
 |v t x=>exact⟨h.1,F5 (fun _ h=>h) (fun _ h=>h.elim) h.2⟩
 |sl s r x=>
  simp only[VR]at h⊢;cases s with
  |false=>exact F5 k.T k.heap (by simp_all)
  |true=>exact F5 k.S (fun b hb=>k.heap b (k.st b hb)) (by simp_all)
 |nil=>exact h
 |ref b p=>
  simp only[VR]at h⊢;obtain⟨h0,h⟩:=h;refine⟨h0,?_⟩;cases e:vw[b]? with
  |none=>simp_all
  |some B=>
   rw[e]at h;have FW:=(AMX.1 e).1;obtain⟨B',e'⟩:=Po k.len e;rw[e'];cases B' with
   |mem cs=>trivial
   |dead=>trivial
   |sl d r rows=>
    obtain⟨d0,Ro,e0,hk⟩:=k.box b d r rows FW e';grind
 |win b p off n=>
  simp only[VR]at h⊢;obtain⟨h0,h⟩:=h;refine⟨h0,?_⟩;cases e:vw[b]? with
  |none=>simp_all
  |some B=>
   rw[e]at h;have FW:=(AMX.1 e).1;obtain⟨B',e'⟩:=Po k.len e;rw[e'];cases B' with
   |mem cs=>trivial
   |dead=>trivial
   |sl d r rows=>
    obtain⟨d0,Ro,e0,hk⟩:=k.box b d r rows FW e';grind
 |Im b j=>exact⟨ARl h.1 k.len,by rw[h.2,k.ID b h.1]⟩
 |Jk b p i sz j=>
  simp only[VR]at h⊢;obtain⟨h0,h⟩:=h;refine⟨h0,?_⟩;cases e:vw[b]? with
  |none=>simp_all
  |some B=>
   rw[e]at h;have FW:=(AMX.1 e).1;obtain⟨B',e'⟩:=Po k.len e;rw[e'];cases B' with
   |mem cs=>trivial
   |dead=>trivial
   |sl d r rows=>
    obtain⟨d0,Ro,e0,hk⟩:=k.box b d r rows FW e';grind
 |Pg s r x j=>
  simp only[VR]at h⊢;obtain⟨bb,o,cs,hv,hb,hl,hc,hr⟩:=h;cases s with
  |false=>exact⟨bb,o,cs,hv,k.T bb (by simp_all),hl,hc.of_block (k.heap bb (by simp_all)),F5 k.T k.heap (by simp_all)⟩
  |true=>exact⟨bb,o,cs,hv,k.S bb (by simp_all),hl,hc.of_block (k.heap bb (k.st bb (by simp_all))),F5 k.S (fun b hb=>k.heap b (k.st b hb)) (by simp_all)⟩
 |fn f Kk=>
  refine⟨fun b hb=>ARl (h.1 b hb) k.len,?_⟩;rw[h.2];congr 2;exact ASA fun b hb=>by rw[k.ID b (h.1 b hb)]
 |qP f rows=>
  obtain⟨ps,hv,h⟩:=h;exact⟨ps,hv,h.imp fun q p ⟨bb,o,cs,h1,h2,h3,h4,h5⟩=>⟨bb,o,cs,h1,k.T bb h2,h3,h4.of_block (k.heap bb h2),F5 k.T k.heap h5⟩⟩
 |xj=>exact h
 |undef=>trivial
theorem PC{E E':Env}{w w':World}{vw vw':List Bx}(k:TF E w vw E' w' vw'):∀{x:XV} {v:Value},XR E w vw x v→XR E' w' vw' x v
 | .c _,_,h=>GU k h
 | .agg _,_,⟨vs,hv,h⟩=>⟨vs,hv,h.imp fun _ _ h=>GU k h⟩
 | .Nr l,_,⟨vs,hv,h⟩=>⟨vs,hv,h.imp fun
  | .inl _,_,h=>GU k h
  | .inr _,_,⟨ws,hw,h⟩=>⟨ws,hw,h.imp fun _ _ h=>GU k h⟩⟩
theorem TF.refl{E:Env}{w:World}{vw:List Bx}(st:∀b,E.S b→E.T b):TF E w vw E w vw:=
 ⟨AP3 _,fun _ _=>rfl,fun _ h=>h,fun _ h=>h,st,fun _ _=>rfl,fun b d r rows _ h=>⟨d,rows,h,fun p hp q ys hg=>⟨hp,⟨ys,hg,rfl⟩,fun _ h=>h⟩⟩⟩
theorem TF.trans{E E' E'':Env}{w w' w'':World}{vw vw' AST:List Bx}(k:TF E w vw E' w' vw')(k':TF E' w' vw' E'' w'' AST):TF E w vw E'' w'' AST where
 len:=ARV k.len k'.len
 ID:=fun b hb=>(k'.ID b (ARl hb k.len)).trans (k.ID b hb)
 T:=fun b h=>k'.T b (k.T b h)
 S:=fun b h=>k'.S b (k.S b h)
 st:=k.st
 heap:=fun b h=>(k'.heap b (k.T b h)).trans (k.heap b h)
 box:=fun b d r rows hb h=>by
  obtain⟨d1,ALn,h1,k1⟩:=k'.box b d r rows (ARl hb k.len) h;obtain⟨d0,Ro,h0,k0⟩:=k.box b d1 r ALn hb h1;grind
theorem sK{w w':World}{S:Nat→Prop}{d:Nat}{r:Ty}{h:Value}{rows:List r.D}{F:ABH}(ho:Ow w S d (.sl r) [h] rows F)
  (hS:∀b,S b→w'.heap[b]? =w.heap[b]?) (hF:∀b∈F,w'.heap[b]? =w.heap[b]?) {p:List Wo} (hp:DG r rows p) {q:Ty} {ys:List q.D} (hg:HE r rows p=some ⟨q,ys⟩)
  {h':Value} (hh:JB w h p=some h'):JB w' h p=some h':=by
 obtain⟨h1,k,_⟩:=nK (Xr ho) hp hg;grind
end Go.Fw
end
section
namespace Go.Fw
theorem CX.set{α β:Type}{R:α→β→Prop}:∀{l:List α} {m:List β} {i:Nat} {a:α} {b:β},CX R l m→R a b→CX R (l.set i a) (m.set i b)
 |[],[],_,_,_,_,_=>trivial
 |_::_,_::_,0,_,_,h,r=>⟨r,h.2⟩
 |_::_,_::_,i+1,_,_,h,r=>⟨h.1,CX.set h.2 r⟩
theorem CX.append{α β:Type}{R:α→β→Prop}:∀{l:List α} {m:List β} {l':List α} {m':List β},CX R l m→CX R l' m'→CX R (l++l') (m++m')
 |[],[],_,_,_,h=>h
 |_::_,_::_,_,_,h,k=>⟨h.1,CX.append h.2 k⟩
theorem CX.MA{α β γ:Type}{R:α→β→Prop}{S:γ→β→Prop}(f:α→γ)(h:∀a b,R a b→S (f a) b):∀{l:List α} {m:List β},CX R l m→CX S (l.map f) m
 |[],[],_=>trivial
 |_::_,_::_,k=>⟨h _ _ k.1,CX.MA f h k.2⟩
theorem CX.drop{α β:Type}{R:α→β→Prop}:∀{l:List α} {m:List β} (n:Nat),CX R l m→CX R (l.drop n) (m.drop n)
 |_,_,0,h=>h
 |[],[],_+1,_=>trivial
 |_::_,_::_,n+1,h=>CX.drop n h.2
theorem CX.take{α β:Type}{R:α→β→Prop}:∀{l:List α} {m:List β} (n:Nat),CX R l m→CX R (l.take n) (m.take n)
 |[],[],0,_=>trivial
 |_::_,_::_,0,_=>trivial
 |[],[],_+1,_=>trivial
 |_::_,_::_,n+1,h=>⟨h.1,CX.take n h.2⟩
structure dA (E0:Env) (w0:World) (E:Env) (w:World):Prop where
 T:∀c,E0.T c→E.T c
 S:∀c,E0.S c→E.S c
 Tof:∀c,E.T c→E0.T c∨E.S c
 y_:∀c,E.S c→E0.S c∨ ¬E0.T c
 heap:∀c,E0.T c→w.heap[c]? =w0.heap[c]?
 os:w.os=w0.os
 tape:w.tape=w0.tape
 output:w.output=w0.output
 size:w0.heap.size≤w.heap.size
theorem dA.refl(E:Env)(w:World):dA E w E w:=⟨fun _ h=>h,fun _ h=>h,fun _ h=> .inl h,fun _ h=> .inl h,fun _ _=>rfl,rfl,rfl,rfl,AP3 _⟩
theorem dA.trans{E E' E'':Env}{w w' w'':World}(h:dA E w E' w')(k:dA E' w' E'' w''):dA E w E'' w'':=
 ⟨fun c hc=>k.T c (h.T c hc),fun c hc=>k.S c (h.S c hc),fun c hc=>(k.Tof c hc).elim (fun h' =>(h.Tof c h').imp id (k.S c)) .inr,
  fun c hc=>(k.y_ c hc).elim (h.y_ c) (fun h' => .inr fun ht=>h' (h.T c ht)),fun c hc=>(k.heap c (h.T c hc)).trans (h.heap c hc),
  k.os.trans h.os,k.tape.trans h.tape,k.output.trans h.output,ARV h.size k.size⟩
theorem Le.base{E E':Env}(h:Le E E')(w:World):dA E w E' w:=⟨h.T,h.S,h.Tof,h.y_,fun _ _=>rfl,rfl,rfl,rfl,AP3 _⟩
def wZ(E:Env)(w:World)(k:Nat):Bx→Nat→Prop
 | .mem _,c=>c=E.ID k
 | .sl _ r rows,c=>RB w (.sl r) [E.IE k] rows c
 | .dead,_=>False
def Vf:Bx→Bx→Prop
 | .mem _,.mem _=>True
 | .sl _ r x,.sl _ q y=>(⟨r,x⟩:(r:Ty)×List r.D)=⟨q,y⟩
 |_,_=>False
structure Rg (t:ABH) (E0:Env) (bx0:List Bx) (w0:World) (E:Env) (bx:List Bx) (w:World):Prop where
 base:dA E0 w0 E w
 len:bx0.length≤bx.length
 ids:∀b,b<bx0.length→E.ID b=E0.ID b∧E.IE b=E0.IE b
 dead:∀b:Nat,bx0[b]? =some Bx.dead→bx[b]? =some Bx.dead
 frame:∀(n:Nat) B B',n∉t→bx0[n]? =some B→bx[n]? =some B'→B'≠ .dead→Vf B B'∧ ∀c,wZ E0 w0 n B c→w.heap[c]? =w0.heap[c]?
theorem Rg.any{E E':Env}{bx Qu:List Bx}{w w':World}(h:Rg [] E bx w E' Qu w'){t:ABH}:Rg t E bx w E' Qu w':=
 ⟨h.base,h.len,h.ids,h.dead,fun n B B' _=>h.frame n B B' (by simp)⟩
theorem Vf.refl{B:Bx}(h:B≠ .dead):Vf B B:=by cases B<;>simp_all[Vf]
theorem Rg.refl(t:ABH)(E:Env)(bx:List Bx)(w:World):Rg t E bx w E bx w:=⟨dA.refl E w,AP3 _,fun _ _=>⟨rfl,rfl⟩,fun _ h=>h,fun n B B' _ h h' hd=>by
 rw[h]at h';cases h';exact⟨Vf.refl hd,fun _ _=>rfl⟩⟩
theorem eO{E:Env}{w:World}{vw:List Bx}{k:Nat}{B:Bx}{F:ABH}{c:Nat}(h:pE E w vw k B F)(hc:wZ E w k B c):E.S c∨c∈F:=by
 cases B with
 |mem cs=>obtain⟨rfl,_⟩:=h;grind[wZ]
 |sl d r rows=>exact tE (Xr h.2) hc
 |dead=>exact hc.elim
structure Rel (E:Env) (σ:St) (a:Act) (w:World):Prop where
 N8:a.defers=[]
 tm:CX (XR E w σ.bx) σ.tm a.tmps.toList
 bx:C7 E w σ.bx σ.bx []
theorem Rel.put{E:Env}{σ:St}{a:Act}{w:World}(h:Rel E σ a w)(dst:Option Tmp){x:XV}{v:Value}(hx:XR E w σ.bx x v):Rel E (σ.put dst x) (a.put dst v) w:=by
 cases dst with
 |none=>exact h
 |some d=>exact⟨h.N8,by simpa[St.put,Act.put]using CX.set h.tm hx,h.bx⟩
theorem CX.ANm{E:Env}{w:World}{vw:List Bx}{l:List XV}{m:Array Value}(h:CX (XR E w vw) l m.toList)(t:Nat):XR E w vw (l.getD t (.c .undef)) (m.getD t undef):=by
 by_cases ht:t<l.length
 ·have e:l[t]? =some l[t]:=AMJ ht
  obtain⟨b,hb,hr⟩:=h.get e;simp_all
 ·have e:l[t]? =none:=by simp_all
  simp only[List.getD_eq_getElem?_getD,e,Option.getD_none]
  trivial
theorem rS{E:Env}{w:World}{vw:List Bx}(v:Value):VR E w vw (ni v) v:=by
 unfold ni;split<;>first
  |trivial
  |exact⟨rfl,by simp[Rd]⟩
  |rfl
theorem ly{E:Env}{w:World}{vw:List Bx}:∀(l:List Value),iy E w vw (l.map ni) l
 |[]=>trivial
 |a::l=>⟨rS a,ly l⟩
theorem yM{E:Env}{w:World}{vw:List Bx}(v:Value):XR E w vw (ofValue v) v:=by
 unfold ofValue;split
 ·rename_i cs
  exact⟨cs,rfl,ly cs.toList⟩
 ·exact rS v
theorem Rel.ev{E:Env}{σ:St}{a:Act}{w:World}(h:Rel E σ a w)(x:Operand):XR E w σ.bx (σ.ev x) (a.eval x):=by
 cases x with
 |tmp t=>exact CX.ANm h.tm t
 |const v=>exact yM v
 |global g=>trivial
 |func f=>exact⟨by simp,rfl⟩
theorem VF{b:Nat}:∀{Fs:List ABH} {F:ABH},Fs[b]? =some F→Fs.flatten.Perm (F++(Fs.set b []).flatten):=by
 induction b with
 |zero=>
  intro Fs F h;cases Fs with
  |nil=>simp at h
  |cons A l=>simp_all
 |succ b ih=>
  intro Fs F h;cases Fs with
  |nil=>simp at h
  |cons A l=>
   grind
theorem Sep.perm{E:Env}{w:World}{F F':ABH}(h:Sep E w F)(p:F.Perm F'):Sep E w F':=
 ⟨p.nodup_iff.1 h.nodup,fun c hc=>h.free c (p.mem_iff.2 hc),fun c hc=>h.lt c (p.mem_iff.2 hc),h.st,h.cf⟩
theorem Sep.sub{E:Env}{w:World}{F F':ABH}(h:Sep E w (F++F')):Sep E w F:=
 ⟨(AP2.1 h.nodup).1,fun c hc=>h.free c (by simp[hc]),fun c hc=>h.lt c (by simp[hc]),h.st,h.cf⟩
theorem C7.perm{E:Env}{w:World}{vw bx:List Bx}{G G':ABH}(h:C7 E w vw bx G)(p:G.Perm G'):C7 E w vw bx G':=
 let⟨Fs,h1,h2⟩:=h
 ⟨Fs,h1,h2.perm (AU2 _ p)⟩
theorem C7.drop{E:Env}{w:World}{vw bx:List Bx}{G G':ABH}(h:C7 E w vw bx (G++G')):C7 E w vw bx G:=
 let⟨Fs,h1,h2⟩:=h
 ⟨Fs,h1,by rw[←AOT]at h2;exact h2.sub⟩
theorem C7.st{E:Env}{w:World}{vw bx:List Bx}{G:ABH}(h:C7 E w vw bx G):∀c,E.S c→E.T c:=let⟨_,_,h⟩:=h;h.st
theorem C7.cf{E:Env}{w:World}{vw bx:List Bx}{G:ABH}(h:C7 E w vw bx G):∀c,E.T c→c<w.heap.size:=let⟨_,_,h⟩:=h;h.cf
theorem C7.AEc{E:Env}{w:World}{vw bx:List Bx}{G:ABH}(h:C7 E w vw bx G):∀c∈G,¬E.T c:=let⟨_,_,h⟩:=h;fun c hc=>h.free c (by simp[hc])
theorem C7.take{E:Env}{w:World}{vw bx:List Bx}{G:ABH}(h:C7 E w vw bx G){b:Nat}{B:Bx}(hb:bx[b]? =some B):
  ∃F,pE E w vw b B F∧C7 E w vw (bx.set b .dead) (F++G):=by
 obtain⟨Fs,⟨hl,h1⟩,h2⟩:=h;have FW:=(AMX.1 hb).1;have hF:Fs[b]? =some (Fs[b]'(by omega)):=AMJ _;refine⟨_,h1 b B _ hb hF,Fs.set b [],⟨by simp_all,fun k C F hk hkF=> ?_⟩,h2.perm ?_⟩
 ·by_cases e:k=b
  ·subst e
   rw[ARy (by omega)]at hk hkF;cases hk;cases hkF;rfl
  grind
 grind[List.Perm.append_right,VF,List.append_assoc,List.perm_append_comm,trans,List.Perm.append_left]
theorem C7.put{E:Env}{w:World}{vw bx:List Bx}{F G:ABH}(h:C7 E w vw bx (F++G)){b:Nat}{B:Bx}(hb:bx[b]? =some .dead)(hB:pE E w vw b B F):
  C7 E w vw (bx.set b B) G:=by
 obtain⟨Fs,⟨hl,h1⟩,h2⟩:=h;have FW:=(AMX.1 hb).1;have hF:Fs[b]? =some (Fs[b]'(by omega)):=AMJ _;have e0:Fs[b]'(by omega)=[]:=h1 b _ _ hb hF;refine⟨Fs.set b F,⟨by simp_all,fun k C F' hk hkF=> ?_⟩,h2.perm ?_⟩
 ·grind
 ·have p:(Fs.set b F).flatten.Perm (F++Fs.flatten):=by
   have p1:=VF (Fs:=Fs.set b F) (b:=b) (F:=F) (ARy (by omega));rw[AVm]at p1;have p2:=VF hF;grind
  grind
theorem C7.push{E:Env}{w:World}{vw bx:List Bx}{F G:ABH}(h:C7 E w vw bx (F++G)){B:Bx}(hB:pE E w vw bx.length B F):
  C7 E w vw (bx++[B]) G:=by
 obtain⟨Fs,⟨hl,h1⟩,h2⟩:=h;refine⟨Fs++[F],⟨by simp[hl],fun k C F' hk hkF=> ?_⟩,h2.perm (by simp)⟩;grind
theorem C7.turn{E E':Env}{w w':World}{vw vw' bx:List Bx}{G:ABH}(h:C7 E w vw bx G)(k:∀x v,VR E w vw x v→VR E' w' vw' x v)
  (hS:∀c,E.S c→E'.S c) (ADD:∀b,b<bx.length→E'.ID b=E.ID b) (mg:∀b,b<bx.length→E'.IE b=E.IE b)
  (hw:∀c,(E.S c∨(¬E.T c∧c∉G))→c<w.heap.size→w'.heap[c]? =w.heap[c]?)
  (AEM:∀F,Sep E w (F++G)→Sep E' w' (F++G)):C7 E' w' vw' bx G:=by
 obtain⟨Fs,⟨hl,h1⟩,h2⟩:=h;refine⟨Fs,⟨hl,fun n B F hn hF=> ?_⟩,AEM _ h2⟩;have FW:=(AMX.1 hn).1;have h3:=h1 n B F hn hF;have APw:∀c∈F,c∈Fs.flatten:=fun c hc=>ARc.2 ⟨F,AQq hF,hc⟩
 have hFw:∀c∈F,w'.heap[c]? =w.heap[c]?:=fun c hc=>hw c (.inr ⟨h2.free c (by simp_all),fun hg=>by
  have:=(AP2.1 h2.nodup).2.2 c (APw c hc) c hg;omega⟩) (h2.lt c (by simp_all))
 have rG:∀c,E.S c→w'.heap[c]? =w.heap[c]?:=fun c hc=>hw c (.inl hc) (h2.cf c (h2.st c hc))
 cases B with
 |mem cs=>
  obtain⟨rfl,arr,ty,fr,ha,hu,hv⟩:=h3;refine⟨by simp_all,arr,ty,fr,?_,hu,hv.imp k⟩;simp_all
 |sl d r rows=>
  obtain⟨hd,ho⟩:=h3;refine⟨hd,?_⟩;grind[EU]
 |dead=>exact h3
end Go.Fw
end
section
namespace Go.Fw
theorem IW{β:Ty→Type}{a b:Ty}{x:β a}{y:β b}(h:Qm a b x=some y):∃e:a=b,e▸x=y:=by
 grind[Qm]
def FM(bk vw:List Bx):Prop:= ∀(b:Nat) (B:Bx),bk[b]? =some B→B= .dead∨vw[b]? =some B
theorem FM.refl(bx:List Bx):FM bx bx:=fun _ _ h=> .inr h
theorem Addr.add_eq(b o n:Nat):(⟨b,o,none⟩:Addr).add n=⟨b,o+n,none⟩:=by grind[Addr.add]
theorem xk{w:World}{B:Nat→Prop}{r:Ty}{a:Option Addr}{len cap:Nat}{ys:List r.D}(h:Rd w B (.sl r) [.slice a len cap] ys){off n:Nat}(hn:off+n≤ys.length):
  Rd w B (.sl r) [VP r.n off n a cap] ((ys.drop off).take n):=by
 simp only[Rd]at h⊢;obtain⟨a',cap',e,hc,h⟩:=h;simp only[ARF,Value.slice.injEq,ARx]at e;obtain⟨rfl,rfl,rfl⟩:=e;have hl:((ys.drop off).take n).length=n:=by grind
 refine⟨_,_,by unfold VP;rw[hl],by omega,?_⟩;rw[hl];by_cases h0:n=0
 ·omega
 ·rcases h with h|⟨b,o,rfl,hb,h⟩
  ·omega
  ·refine .inr ⟨b,o+off*r.n,?_,hb,fun i y hy=> ?_⟩
   ·rw[AMG (by omega)]
    simp[Addr.add_eq]
   grind
def oH(E:Env)(Fs:List ABH)(c:Nat):Prop:=E.T c∨c∈Fs.flatten
section
variable{E:Env} {w:World} {vw bk:List Bx} {Fs:List ABH}
theorem Ns.get(h:Ns E w vw bk Fs){b:Nat}{B:Bx}(e:bk[b]? =some B):∃F,pE E w vw b B F∧ ∀c∈F,c∈Fs.flatten:=by
 have FW:=(AMX.1 e).1;have hF:Fs[b]? =some (Fs[b]'(by rw[h.1];omega)):=AMJ _;exact⟨_,h.2 b B _ e hF,fun c hc=>ARc.2 ⟨_,AQq hF,hc⟩⟩
theorem dh(hs:FM bk vw)(h:Ns E w vw bk Fs)(st:∀c,E.S c→E.T c){b d:Nat}{r:Ty}{rows:List r.D}(e:bk[b]? =some (.sl d r rows))
  {p:List Wo} (hp:DG r rows p) {q:Ty} {ys:List q.D} (hg:HE r rows p=some ⟨q,ys⟩) {v:Value} (hh:JB w (E.IE b) p=some v):
  Rd w (oH E Fs) (.sl q) [v] ys:=by
 obtain⟨F,⟨_,ho⟩,hF⟩:=h.get e;obtain⟨h',k,hr⟩:=nK (Xr ho) hp hg;have:=k w (fun _ _=>rfl);rw[hh]at this;cases this;exact F5 (fun c hc=>hc.elim (fun hc=> .inl (st c hc)) (fun hc=> .inr (hF c hc))) (fun _ _=>rfl) hr
theorem YG(hs:FM bk vw){b d:Nat}{r:Ty}{rows:List r.D}(e:bk[b]? =some (.sl d r rows)):vw[b]? =some (.sl d r rows):=by
 rcases hs b _ e with h|h
 all_goals simp_all
theorem Zz(hs:FM bk vw)(h:Ns E w vw bk Fs)(st:∀c,E.S c→E.T c){x:AV}{v:Value}(hv:VR E w vw x v){q:Ty}{ys:List q.D}(e:Ng bk x=some ⟨q,ys⟩):
  Rd w (oH E Fs) (.sl q) [v] ys:=by
 cases x with
 |sl s r x=>
  simp only[Ng,AMO,APl]at e;obtain⟨rfl,e⟩:=e;obtain rfl:=ARM e;simp only[VR]at hv;refine F5 (fun c hc=> ?_) (fun _ _=>rfl) hv;cases s
  ·exact .inl (by simp_all)
  ·exact .inl (st c (by simp_all))
 |ref b p=>
  grind[Ng,VR,YG,dh]
 |win b p off n=>
  simp only[Ng]at e;split at e
  ·rename_i d r rows hb
   simp only[VR,YG hs hb]at hv;obtain⟨_,hp,q',uC,a,len,cap,hg,hl,hh,rfl⟩:=hv;rw[hg]at e;simp only[Option.map_some,AMO,APl]at e;obtain⟨rfl,e⟩:=e;obtain rfl:=ARM e;grind[xk,dh]
  simp_all
 |_=>simp[Ng]at e
theorem Uw(hs:FM bk vw)(h:Ns E w vw bk Fs)(st:∀c,E.S c→E.T c){t:Ty}{x:AV}{v:Value}(hv:VR E w vw x v){y:t.D}(e:NL bk t x=some y):
  Rd w (oH E Fs) t [v] y:=by
 have sl:∀(r:Ty) (x:AV) (v:Value) (y:List r.D),VR E w vw x v→((Ng bk x).bind fun q=>Qm (β:=fun r=>List r.D) q.1 r q.2)=some y→Rd w (oH E Fs) (.sl r) [v] y:=by
  grind[Option.bind_eq_some_iff,IW,Zz]
 cases x with
 |v u z=>
  simp only[NL]at e;obtain⟨e1,e2⟩:=IW e;subst e1;subst e2;exact F5 (fun _ hc=>hc.elim) (fun _ hc=>hc.elim) hv.2
 |nil=>
  cases t with
  |sl r=>
   simp only[NL,AMO]at e;subst e;simp only[VR]at hv;subst hv;simp only[Rd];simp_all
  |_=>simp[NL]at e
 |_=>
  cases t with
  |sl r=>exact sl r _ _ y hv (by simpa only[NL]using e)
  |_=>simp[NL]at e
theorem gU(hs:FM bk vw)(h:Ns E w vw bk Fs)(st:∀c,E.S c→E.T c):∀{r:Ty} {l:List AV} {vs:List Value} {x:r.D},iy E w vw l vs→IL bk r l=some x→
  Rd w (oH E Fs) r vs x
 | .unit,[],[],x,_,_=>by rfl
 | .cons c r,a::l,v::vs,x,hv,e=>by
  simp only[IL,AMi,AMU]at e;obtain⟨y,e1,z,e2,rfl⟩:=e;simp only[Rd];exact⟨v,vs,rfl,Uw hs h st hv.1 e1,gU hs h st hv.2 e2⟩
 | .unit,_::_,_,_,_,e=>by simp[IL]at e
 | .unit,[],_::_,_,hv,_=>hv.elim
 | .cons _ _,[],_,_,_,e=>by simp[IL]at e
 | .cons _ _,_::_,[],_,hv,_=>hv.elim
 | .int _,_,_,_,_,e=>by simp[IL]at e
 | .bool,_,_,_,_,e=>by simp[IL]at e
 | .str,_,_,_,_,e=>by simp[IL]at e
 | .sl _,_,_,_,_,e=>by simp[IL]at e
theorem hY{E1:Env}{wR:List Bx}(hs:FM bk vw)(h:Ns E w vw bk Fs)(st:∀c,E.S c→E.T c)(hT:∀c,oH E Fs c→E1.T c):
  ∀{r:Ty} {l:List AV} {vs:List Value} {x:r.D},iy E w vw l vs→IL bk r l=some x→iy E1 w wR (oy r x) vs
 | .unit,[],[],x,_,_=>trivial
 | .cons c r,a::l,v::vs,x,hv,e=>by
  simp only[IL,AMi,AMU]at e;obtain⟨y,e1,z,e2,rfl⟩:=e;have X5:=Uw hs h st hv.1 e1;have tl:iy E1 w wR _ _:=hY hs h st hT hv.2 e2;cases c with
  |sl q=>
   refine⟨?_,tl⟩;simp only[VR];exact F5 hT (fun _ _=>rfl) (by omega)
  |int k=>exact⟨⟨rfl,by grind[Rd]⟩,tl⟩
  |bool=>exact⟨⟨rfl,by grind[Rd]⟩,tl⟩
  |str=>exact⟨⟨rfl,by grind[Rd]⟩,tl⟩
  |unit=>
   grind[Rd]
  |cons c' r' =>
   exfalso
   cases a with
   |v u z=>
    simp only[NL]at e1;obtain⟨e3,_⟩:=IW e1;subst e3;exact absurd hv.1.1 (by simp[Ty.scalar])
   |_=>simp[NL]at e1
 | .unit,_::_,_,_,_,e=>by simp[IL]at e
 | .unit,[],_::_,_,hv,_=>hv.elim
 | .cons _ _,[],_,_,_,e=>by simp[IL]at e
 | .cons _ _,_::_,[],_,hv,_=>hv.elim
 | .int _,_,_,_,_,e=>by simp[IL]at e
 | .bool,_,_,_,_,e=>by simp[IL]at e
 | .str,_,_,_,_,e=>by simp[IL]at e
 | .sl _,_,_,_,_,e=>by simp[IL]at e
end
end Go.Fw
end
section
namespace Go.Fw
def Ext(m m':Pm):Prop:=m'.length=m.length∧ ∀(i b:Nat),m[i]? =some (some b)→m'[i]? =some (some b)
theorem Ext.refl(m:Pm):Ext m m:=⟨rfl,fun _ _ h=>h⟩
theorem Ext.trans{m m' m'':Pm}(h:Ext m m')(k:Ext m' m''):Ext m m'':=⟨k.1.trans h.1,fun i b e=>k.2 i b (h.2 i b e)⟩
def oC(m:Pm):Prop:= ∀(i j b:Nat),m[i]? =some (some b)→m[j]? =some (some b)→i=j
theorem cj{m m':Pm}{i b:Nat}(e:m.put i b=some m'):Ext m m'∧m'[i]? =some (some b)∧(oC m→oC m'):=by
 unfold Pm.put at e;split at e
 ·rename_i h
  split at e
  ·cases e
  ·rename_i hc
   cases e;have FW:=(AMX.1 h).1;have AT2:∀(k:Nat),m[k]?≠some (some b):=fun k hk=>hc (by
    grind)
   refine⟨⟨by simp,fun k c hk=> ?_⟩,by simp[FW],fun hi j k c hj hk=> ?_⟩
   ·grind
   ·by_cases e1:j=i<;>by_cases e2:k=i
    ·omega
    ·grind
    ·grind
    ·rw[ARd (by omega)]at hj hk
     exact hi j k c hj hk
 all_goals grind[Ext.refl]
def Rt(m:Pm):List Nat→List Nat→Prop
 |[],[]=>True
 |i::is,b::bs=>m[i]? =some (some b)∧Rt m is bs
 |_,_=>False
theorem Rt.ext{m m':Pm}(h:Ext m m'):∀{is bs},Rt m is bs→Rt m' is bs
 |[],[],_=>trivial
 |_::_,_::_,k=>⟨h.2 _ _ k.1,Rt.ext h k.2⟩
theorem jK:∀{is bs:ABH} {m m':Pm},a_ m is bs=some m'→Ext m m'∧Rt m' is bs∧(oC m→oC m')
 |[],[],m,m',e=>by simp only[a_,AMO]at e;subst e;exact⟨Ext.refl _,trivial,fun h=>h⟩
 |i::is,b::bs,m,m',e=>by
  simp only[a_,AMi]at e;obtain⟨m1,e1,e2⟩:=e;obtain⟨a1,a2,a3⟩:=cj e1;obtain⟨b1,b2,b3⟩:=jK e2;exact⟨a1.trans b1,⟨b1.2 _ _ a2,b2⟩,fun h=>b3 (a3 h)⟩
 |[],_::_,_,_,e=>by simp[a_]at e
 |_::_,[],_,_,e=>by simp[a_]at e
def Rv(N:Nat)(m:Pm):AP→AV→Prop
 | .ref i,x=> ∃b,(x= .ref b []∨(x= .nil∧b=N+i))∧m[i]? =some (some b)
 | .ptr i j,x=> ∃b,x= .Im b j∧m[i]? =some (some b)
 | .fn f Kk,x=> ∃bs,x= .fn f bs∧Rt m Kk bs
 | .nil,x=>x= .nil
 | .jy i sz,x=> ∃b k j,x= .ref b [⟨k,sz,j⟩]∧m[i]? =some (some b)
 |_,_=>True
theorem Rv.ext{N:Nat}{m m':Pm}(h:Ext m m'){p:AP}{x:AV}(k:Rv N m p x):Rv N m' p x:=by
 cases p with
 |ref i=>obtain⟨b,hx,k⟩:=k;exact⟨b,hx,h.2 _ _ k⟩
 |ptr i j=>obtain⟨b,rfl,k⟩:=k;exact⟨b,rfl,h.2 _ _ k⟩
 |fn f Kk=>obtain⟨bs,rfl,k⟩:=k;exact⟨bs,rfl,k.ext h⟩
 |nil=>exact k
 |jy i sz=>obtain⟨b,q,j,rfl,k⟩:=k;exact⟨b,q,j,rfl,h.2 _ _ k⟩
 |_=>trivial
theorem dk{N:Nat}{m m':Pm}{p:AP}{x:AV}(e:p.OD N m x=some m'):Ext m m'∧Rv N m' p x∧(oC m→oC m'):=by
 cases p with
 |ref i=>
  cases x with
  |ref b q=>
   cases q with
   |nil=>
    obtain⟨a,b,c⟩:=cj (by simpa only[AP.OD]using e);exact⟨a,⟨_,.inl rfl,b⟩,c⟩
   |cons _ _=>simp[AP.OD]at e
  |nil=>
   obtain⟨a,b,c⟩:=cj (by simpa only[AP.OD]using e);exact⟨a,⟨_,.inr ⟨rfl,rfl⟩,b⟩,c⟩
  |_=>simp[AP.OD]at e
 |ptr i j=>
  cases x with
  |Im b j' =>
   simp only[AP.OD]at e;split at e
   ·rename_i hj
    subst hj;obtain⟨a,b,c⟩:=cj e;exact⟨a,⟨_,rfl,b⟩,c⟩
   simp_all
  |_=>simp[AP.OD]at e
 |fn f Kk=>
  cases x with
  |fn g bs=>
   simp only[AP.OD]at e;split at e
   ·rename_i hf
    subst hf;obtain⟨a,b,c⟩:=jK e;exact⟨a,⟨_,rfl,b⟩,c⟩
   simp_all
  |_=>simp[AP.OD]at e
 |nil=>
  cases x with
  |nil=>simp only[AP.OD,AMO]at e;subst e;exact⟨Ext.refl _,rfl,fun h=>h⟩
  |_=>simp[AP.OD]at e
 |jy i sz=>
  cases x with
  |ref b q=>
   cases q with
   |nil=>simp[AP.OD]at e
   |cons s q=>
    cases q with
    |nil=>
     simp only[AP.OD]at e;split at e
     ·rename_i hs
      obtain⟨a,b,c⟩:=cj e;obtain⟨k,z,y⟩:=s;dsimp only at hs;subst hs;exact⟨a,⟨_,k,y,rfl,b⟩,c⟩
     simp_all
    |cons _ _=>simp[AP.OD]at e
  |_=>simp[AP.OD]at e
 |_=>
  have:m=m':=by grind[AP.OD]
  subst this;exact⟨Ext.refl _,trivial,fun h=>h⟩
theorem WZ{N:Nat}:∀{l:List AP} {xs:List AV} {m m':Pm},X7.OD N m l xs=some m'→Ext m m'∧CX (Rv N m') l xs∧(oC m→oC m')
 |[],[],m,m',e=>by simp only[X7.OD,AMO]at e;subst e;exact⟨Ext.refl _,trivial,fun h=>h⟩
 |p::l,x::xs,m,m',e=>by
  simp only[X7.OD,AMi]at e;obtain⟨m1,e1,e2⟩:=e;obtain⟨a1,a2,a3⟩:=dk e1;obtain⟨b1,b2,b3⟩:=WZ e2;exact⟨a1.trans b1,⟨a2.ext b1,b2⟩,fun h=>b3 (a3 h)⟩
 |[],_::_,_,_,e=>by simp[X7.OD]at e
 |_::_,[],_,_,e=>by simp[X7.OD]at e
def fp(N:Nat)(m:Pm):AP ⊕ List AP→AV ⊕ List AV→Prop
 | .inl p,.inl x=>Rv N m p x
 | .inr p,.inr x=>CX (Rv N m) p x
 |_,_=>False
theorem fp.ext{N:Nat}{m m':Pm}(h:Ext m m'):∀{p:AP ⊕ List AP} {x:AV ⊕ List AV},fp N m p x→fp N m' p x
 | .inl _,.inl _,k=>Rv.ext h k
 | .inr _,.inr _,k=>CX.imp (fun _ _ k=>Rv.ext h k) k
theorem bE{N:Nat}:∀{l:List (AP ⊕ List AP)} {xs:List (AV ⊕ List AV)} {m m':Pm},YK.OD N m l xs=some m'→Ext m m'∧CX (fp N m') l xs∧(oC m→oC m')
 |[],[],m,m',e=>by simp only[YK.OD,AMO]at e;subst e;exact⟨Ext.refl _,trivial,fun h=>h⟩
 | .inl p::l,.inl x::xs,m,m',e=>by
  simp only[YK.OD,AMi]at e;obtain⟨m1,e1,e2⟩:=e;obtain⟨a1,a2,a3⟩:=dk e1;obtain⟨b1,b2,b3⟩:=bE e2;exact⟨a1.trans b1,⟨Rv.ext b1 a2,b2⟩,fun h=>b3 (a3 h)⟩
 | .inr p::l,.inr x::xs,m,m',e=>by
  simp only[YK.OD,AMi]at e;obtain⟨m1,e1,e2⟩:=e;obtain⟨a1,a2,a3⟩:=WZ e1;obtain⟨b1,b2,b3⟩:=bE e2;exact⟨a1.trans b1,⟨CX.imp (fun _ _ k=>Rv.ext b1 k) a2,b2⟩,fun h=>b3 (a3 h)⟩
 |[],_::_,_,_,e=>by simp[YK.OD]at e
 | .inl _::_,[],_,_,e=>by simp[YK.OD]at e
 | .inr _::_,[],_,_,e=>by simp[YK.OD]at e
 | .inl _::_,.inr _::_,_,_,e=>by simp[YK.OD]at e
 | .inr _::_,.inl _::_,_,_,e=>by simp[YK.OD]at e
def aw(N:Nat)(m:Pm):XP→XV→Prop
 | .c p,.c x=>Rv N m p x
 | .agg l,.agg xs=>CX (Rv N m) l xs
 | .row _,.agg _=>True
 | .Nr l,.Nr xs=>CX (fp N m) l xs
 |_,_=>False
theorem aw.ext{N:Nat}{m m':Pm}(h:Ext m m'):∀{p:XP} {x:XV},aw N m p x→aw N m' p x
 | .c _,.c _,k=>Rv.ext h k
 | .agg _,.agg _,k=>CX.imp (fun _ _ k=>Rv.ext h k) k
 | .row _,.agg _,_=>trivial
 | .Nr _,.Nr _,k=>CX.imp (fun _ _ k=>fp.ext h k) k
theorem uI{N:Nat}{m m':Pm}:∀{p:XP} {x:XV},p.OD N m x=some m'→Ext m m'∧aw N m' p x∧(oC m→oC m')
 | .c p,.c x,e=>dk (by grind[XP.OD])
 | .agg l,.agg xs,e=>WZ (by grind[XP.OD])
 | .row r,.agg xs,e=>by simp only[XP.OD,AMO]at e;subst e;exact⟨Ext.refl _,trivial,fun h=>h⟩
 | .Nr l,.Nr xs,e=>bE (by grind[XP.OD])
 | .c _,.agg _,e=>by simp[XP.OD]at e
 | .c _,.Nr _,e=>by simp[XP.OD]at e
 | .agg _,.c _,e=>by simp[XP.OD]at e
 | .agg _,.Nr _,e=>by simp[XP.OD]at e
 | .row _,.c _,e=>by simp[XP.OD]at e
 | .row _,.Nr _,e=>by simp[XP.OD]at e
 | .Nr _,.c _,e=>by simp[XP.OD]at e
 | .Nr _,.agg _,e=>by simp[XP.OD]at e
theorem dP{N:Nat}{tm:List XV}:∀{l:List (Nat×XP)} {m m':Pm},G8.OD N tm m l=some m'→
  Ext m m'∧(∀q∈l,∃x,tm[q.1]? =some x∧aw N m' q.2 x)∧(oC m→oC m')
 |[],m,m',e=>by grind[G8.OD,Option.some.injEq,Ext.refl]
 |(i,p)::l,m,m',e=>by
  simp only[G8.OD]at e;split at e
  ·rename_i x hx
   simp only[AMi]at e;obtain⟨m1,e1,e2⟩:=e;obtain⟨a1,a2,a3⟩:=uI e1;obtain⟨b1,b2,b3⟩:=dP e2;refine⟨a1.trans b1,?_,fun h=>b3 (a3 h)⟩;intro q hq;rcases AQw.1 hq with rfl|hq
   all_goals grind[aw.ext]
  simp_all
theorem WY{N:Nat}{bx:List Bx}:∀{l:List BP} {i:Nat} {m m':Pm},J1.OD N bx i m l=some m'→
  Ext m m'∧(∀(k:Nat) q,l[k]? =some (.mem q)→ ∃b cs,m'[i+k]? =some (some b)∧bx[b]? =some (.mem cs)∧CX (Rv N m') q cs)∧
   (∀(k:Nat) d r,l[k]? =some (.sl d r)→ ∃b,m'[i+k]? =some (some b))∧(oC m→oC m')
 |[],i,m,m',e=>by grind[J1.OD,Option.some.injEq,Ext.refl]
 | .mem q::l,i,m,m',e=>by
  simp only[J1.OD]at e;split at e
  ·rename_i b hb
   split at e
   ·rename_i cs vh
    simp only[AMi]at e;obtain⟨m1,e1,e2⟩:=e;obtain⟨a1,a2,a3⟩:=WZ e1;obtain⟨b1,b2,b4,b3⟩:=WY e2;refine⟨a1.trans b1,?_,?_,fun h=>b3 (a3 h)⟩
    ·intro k q' hk
     cases k with
     |zero=>cases hk;exact⟨b,cs,b1.2 _ _ (a1.2 _ _ hb),vh,CX.imp (fun _ _ k=>Rv.ext b1 k) a2⟩
     |succ k=>
      grind
    grind
   simp_all
  simp_all
 | .sl d r::l,i,m,m',e=>by
  simp only[J1.OD]at e;split at e
  ·rename_i b hb
   obtain⟨b1,b2,b4,b3⟩:=WY e;refine⟨b1,?_,?_,b3⟩
   ·grind
   ·intro k d r hk
    cases k with
    |zero=>exact⟨b,b1.2 _ _ hb⟩
    |succ k=>
     grind
  simp_all
 | .gone::l,i,m,m',e=>by
  simp only[J1.OD]at e;obtain⟨b1,b2,b4,b3⟩:=WY e;grind
theorem Rr{bx bk:List Bx}{JT:Nat→Nat}:∀{l:List BP} {m:Pm} {x:J1.V l},J1.get bx bk m l=some x→(J1.mk JT l x).length=l.length∧
  ∀(k:Nat) p,l[k]? =some p→ ∃y:p.V,(J1.mk JT l x)[k]? =some (p.mk JT y)∧
   match p,y with
   | .mem q,y=> ∃b cs,m[k]? =some (some b)∧bx[b]? =some (.mem cs)∧X7.get bk q cs=some y
   | .sl d r,y=> ∃b d',m[k]? =some (some b)∧bx[b]? =some (.sl d' r y)∧1≤d∧d≤d'
   | .gone,_=>True
 |[],m,x,e=>⟨rfl,by simp⟩
 | .mem q::l,some b::m,x,e=>by
  simp only[J1.get]at e;split at e
  ·rename_i cs vh
   simp only[AMi,AMU]at e;obtain⟨a,e1,c,e2,rfl⟩:=e;obtain⟨h1,h2⟩:=Rr (JT:=JT) e2;refine⟨by simp[J1.mk,h1],fun k p hk=> ?_⟩;cases k with
   |zero=>cases hk;exact⟨a,rfl,b,cs,rfl,vh,e1⟩
   |succ k=>
    grind[J1.mk]
  simp_all
 | .sl d r::l,some b::m,x,e=>by
  simp only[J1.get]at e;split at e
  ·rename_i d' q rows hb
   split at e
   ·rename_i hd
    simp only[AMi,AMU]at e;obtain⟨a,e1,c,e2,rfl⟩:=e;obtain⟨e3,e4⟩:=IW e1;subst e3;subst e4;obtain⟨h1,h2⟩:=Rr (JT:=JT) e2;refine⟨by simp[J1.mk,h1],fun k p hk=> ?_⟩;cases k with
    |zero=>cases hk;exact⟨rows,rfl,b,d',rfl,hb,hd.1,hd.2⟩
    |succ k=>
     grind[J1.mk]
   simp_all
  simp_all
 | .gone::l,o::m,x,e=>by
  have e':(J1.get bx bk m l).map (fun c=>((),c))=some x:=by grind[J1.get]
  simp only[AMU]at e';obtain⟨c,e2,rfl⟩:=e';obtain⟨h1,h2⟩:=Rr (JT:=JT) e2;refine⟨by simp[J1.mk,h1],fun k p hk=> ?_⟩;cases k with
  |zero=>cases hk;exact⟨(),rfl,trivial⟩
  |succ k=>
   grind[J1.mk]
 | .mem q::l,none::m,x,e=>by simp[J1.get]at e
 | .sl d r::l,none::m,x,e=>by simp[J1.get]at e
 | .mem _::_,[],x,e=>by simp[J1.get]at e
 | .sl _ _::_,[],x,e=>by simp[J1.get]at e
 | .gone::_,[],x,e=>by simp[J1.get]at e
theorem Ky:∀{m:Pm} {bx:List Bx},(Ct bx m).length=bx.length
 |[],_=>rfl
 |some b::m,bx=>by simp[Ct,Ky]
 |none::m,bx=>by simp[Ct,Ky]
theorem SN:∀{m:Pm} {bx vw:List Bx},FM bx vw→FM (Ct bx m) vw
 |[],_,_,h=>h
 |none::m,bx,vw,h=>by simp only[Ct];exact SN h
 |some b::m,bx,vw,h=>by
  simp only[Ct];refine SN fun k B hk=> ?_
  by_cases e:k=b
  ·grind
  ·rw[ARd (by omega)]at hk
   exact h k B hk
theorem Wi:∀{m:Pm} {bx:List Bx} {b:Nat} {B:Bx},some b∈m→(Ct bx m)[b]? =some B→B= .dead
 |some c::m,bx,b,B,h,e=>by
  simp only[Ct]at e;by_cases hm:some b∈m
  ·exact Wi hm e
  ·have:c=b:=by
    simp_all
   subst this;have:∀{m:Pm} {bx:List Bx},bx[c]? =some .dead→some c∉m→(Ct bx m)[c]? =some .dead:=by
    intro m
    induction m with
    |nil=>intro bx h _;exact h
    |cons o m ih=>
     intro bx h hn;cases o with
     |none=>grind[Ct,List.mem_cons_of_mem]
     |some d=>
      grind[Ct,List.mem_cons_of_mem,List.getElem?_set_ne]
   grind[List.getElem?_eq_some_iff,Ky]
 |none::m,bx,b,B,h,e=>by
  simp only[Ct]at e;exact Wi (by simp_all) e
theorem m_{E:Env}{w:World}{vw:List Bx}:∀{m:Pm} {bx:List Bx} {G:ABH},oC m→C7 E w vw bx G→
  ∃Gs:List ABH,Gs.length=m.length∧(∀(k b:Nat) B F,m[k]? =some (some b)→bx[b]? =some B→Gs[k]? =some F→pE E w vw b B F)∧
   C7 E w vw (Ct bx m) (Gs.flatten++G)
 |[],bx,G,_,h=>⟨[],rfl,by simp,h⟩
 |none::m,bx,G,hi,h=>by
  obtain⟨Gs,h1,h2,h3⟩:=m_ (m:=m) (fun i j b DE hj=>by
   have:=hi (i+1) (j+1) b (by simp_all) (by simp_all);omega) h
  refine⟨[]::Gs,by simp[h1],fun k b B F hk hB hF=> ?_,by grind[Ct]⟩;grind
 |some b::m,bx,G,hi,h=>by
  have AFF:oC m:=fun i j b DE hj=>by
   have:=hi (i+1) (j+1) b (by simp_all) (by simp_all);omega
  cases e:bx[b]? with
  |none=>
   have Tk:bx.set b .dead=bx:=List.set_eq_of_length_le (by simp_all);obtain⟨Gs,h1,h2,h3⟩:=m_ (m:=m) AFF h;refine⟨[]::Gs,by simp[h1],fun k b' B F hk hB hF=> ?_,by grind[Ct]⟩;grind
  |some B0=>
   obtain⟨F0,k1,k2⟩:=h.take e;obtain⟨Gs,h1,h2,h3⟩:=m_ (m:=m) AFF k2;refine⟨F0::Gs,by simp[h1],fun k b' B F hk hB hF=> ?_,?_⟩
   ·cases k with
    |zero=>
     simp_all
    |succ k=>
     have ax:b'≠b:=fun hh=>by
      have:=hi 0 (k+1) b (by simp) (by simp_all);omega
     grind
   ·simp only[Ct]
    refine h3.perm ?_
    grind
end Go.Fw
end
section
namespace Go.Fw
theorem qE{R:Nat→List Nat→List Nat→List Nat→Prop}:∀(Gs:List ABH) (o:Nat),(∀(k:Nat) G,Gs[k]? =some G→ ∃F W,G.Perm (F++W)∧R (o+k) G F W)→
  ∃Fs Ws:List ABH,Fs.length=Gs.length∧Ws.length=Gs.length∧Gs.flatten.Perm (Fs.flatten++Ws.flatten)∧
   ∀(k:Nat) G F W,Gs[k]? =some G→Fs[k]? =some F→Ws[k]? =some W→R (o+k) G F W
 |[],o,_=>⟨[],[],rfl,rfl,by simp,by simp⟩
 |G::Gs,o,h=>by
  obtain⟨F,W,hp,hr⟩:=h 0 G rfl;obtain⟨Fs,Ws,h1,h2,h3,h4⟩:=qE Gs (o+1) (fun k G hk=>by
   have:=h (k+1) G (by simp_all)
   rwa [show o+1+k=o+(k+1)by omega])
  refine⟨F::Fs,W::Ws,by simp[h1],by simp[h2],?_,fun k G' F' W' hG hF hW=> ?_⟩
  all_goals grind
def OS(E:Env)(w:World)(vw:List Bx)(JT:Nat→Nat):(l:List (Nat×XP))→G8.V l→List Value→Prop
 |[],_,_=>True
 |(i,p)::l,x,vals=>(∃v,vals[i]? =some v∧XR E w vw (p.mk JT x.1) v)∧OS E w vw JT l x.2 vals
section
variable{E E1:Env} {w:World} {bx bk wR:List Bx} {Fk:List ABH} {m:Pm}
theorem Rt.map{f:Nat→Nat}(h:∀(i b:Nat),m[i]? =some (some b)→E1.ID i=E.ID b):∀{is bs:ABH},Rt m is bs→
  (is.map fun b=>Value.pointer (some ⟨E1.ID b,0,none⟩))=bs.map fun b=>Value.pointer (some ⟨E.ID b,0,none⟩)
 |[],[],_=>rfl
 |i::is,b::bs,k=>by simp[h i b k.1,Rt.map (f:=f) h k.2]
theorem Rt.lt:∀{is bs:ABH},Rt m is bs→ ∀i∈is,i<m.length
 |[],[],_,_,h=>by simp at h
 |i::is,b::bs,k,j,h=>by
  rcases AQw.1 h with rfl|h
  ·exact(AMX.1 k.1).1
  ·exact Rt.lt k.2 j h
structure ADp (N:Nat) (E:Env) (w:World) (bx bk:List Bx) (Fk:List ABH) (m:Pm) (E1:Env) (wR:List Bx):Prop where
 within:FM bk bx
 boxes:Ns E w bx bk Fk
 st:∀c,E.S c→E.T c
 T:∀c,oH E Fk c→E1.T c
 S:∀c,E.S c→E1.S c
 ids:∀(i b:Nat),m[i]? =some (some b)→E1.ID i=E.ID b∧E1.IE i=E.IE b
 len:m.length≤wR.length
 nil:∀(i:Nat) d r rows,wR[i]? =some (.sl d r rows)→E.IE (N+i)= .slice none 0 0
 sl:∀(i:Nat) d r rows,i<m.length→wR[i]? =some (.sl d r rows)→ ∃b d',m[i]? =some (some b)∧bx[b]? =some (.sl d' r rows)
variable{N:Nat} (k:ADp N E w bx bk Fk m E1 wR)
include k
theorem yA{p:AP}{x:AV}{v:Value}(hv:VR E w bx x v)(ha:Rv N m p x){y:p.V}(e:p.get bk x=some y):VR E1 w wR (p.mk id y) v:=by
 cases p with
 |v t=>
  simp only[AP.get]at e;split at e
  ·rename_i hs
   have hr:=Uw k.within k.boxes k.st hv e;refine⟨hs,?_⟩;cases t with
   |int _=>grind[Rd]
   |bool=>grind[Rd]
   |str=>grind[Rd]
   |_=>simp[Ty.scalar]at hs
  simp_all
 |sl s r=>
  cases s with
  |false=>
   simp only[AP.get]at e;have hr:=Uw k.within k.boxes k.st hv e;simp only[AP.mk,VR];exact F5 k.T (fun _ _=>rfl) (by omega)
  |true=>
   simp only[AP.get]at e;split at e
   ·rename_i q z
    obtain⟨e1,e2⟩:=IW e;subst e1;subst e2;simp only[AP.mk,VR]at hv⊢;exact F5 k.S (fun _ _=>rfl) (by simp_all)
   ·cases e
    simp only[AP.mk,VR]at hv⊢;subst hv;simp only[Rd];simp_all
   simp_all
 |nil=>
  obtain rfl:=ha;exact hv
 |ref i=>
  obtain⟨b,hx,hm⟩:=ha;have hi:=(AMX.1 hm).1;simp only[AP.mk,id,VR];rcases hx with rfl|⟨rfl,rfl⟩
  ·have hsl:=hv.1
   refine⟨hsl,?_⟩;cases e1:wR[i]? with
   |none=>simp at e1;have:=k.len;omega
   |some B=>
    cases B with
    |sl d r rows=>
     obtain⟨b',d',h1,h2⟩:=k.sl i d r rows hi e1;rw[hm]at h1;cases h1;simp only[VR,h2]at hv
     replace hv:=hv.2
     refine⟨by simp[DG],⟨_,rfl⟩,?_⟩;rw[(k.ids i b hm).2];simp_all
    |_=>trivial
  ·have Yj:v= .slice none 0 0:=hv
   subst Yj;refine⟨rfl,?_⟩;cases e1:wR[i]? with
   |none=>simp at e1;have:=k.len;omega
   |some B=>
    cases B with
    |sl d r rows=>
     refine⟨by simp[DG],⟨_,rfl⟩,?_⟩;rw[(k.ids i _ hm).2,k.nil i d r rows e1,DB]
    |_=>trivial
 |ptr i j=>
  obtain⟨b,rfl,hm⟩:=ha;have hi:=(AMX.1 hm).1;exact⟨ARl hi k.len,by rw[hv.2,id,(k.ids i b hm).1]⟩
 |mG r=>
  simp only[AP.get]at e;split at e
  ·rename_i s q z
   obtain⟨e1,e2⟩:=IW e;subst e1;subst e2;simp only[AP.mk,VR]at hv⊢;obtain⟨bb,o,cs,h1,h2,h3,h4,h5⟩:=hv;have APx:∀c,(if s=true then E.S else E.T) c→E1.T c:=by
    intro c hc;cases s
    ·exact k.T c (.inl (by simp_all))
    ·exact k.T c (.inl (k.st c (by simp_all)))
   exact⟨bb,o,cs,h1,by simp_all,h3,h4,by simpa using F5 APx (fun _ _=>rfl) h5⟩
  ·rename_i b
   split at e
   ·rename_i cs hb
    obtain⟨F,⟨hF,arr,ty,fr,ha,hu,V6⟩,UI⟩:=k.boxes.get hb;have X5:=gU k.within k.boxes k.st V6 e;simp only[AP.mk,VR];refine⟨E.ID b,0,arr.toList,by simpa using hv.2,?_,kN X5,?_,by simpa using F5 k.T (fun _ _=>rfl) X5⟩
    ·simp only[AMZ,AQb]
     exact k.T _ (.inr (UI _ (by simp_all)))
    ·intro j u hj
     simp only[AR5,World.cell?,ha,AR0,AMZ,AQb];simp_all
   simp_all
  ·rename_i b p i sz
   split at e
   ·rename_i d q rows hb
    simp only[AMi]at e;obtain⟨⟨q',ys⟩,e1,e2⟩:=e;split at e2
    case isFalse=>cases e2
    rename_i Pe;obtain⟨e3,e4⟩:=IW e2;dsimp only at e3;subst e3;subst e4;simp only[VR,YG k.within hb]at hv;obtain⟨_,hp,q1,ys1,bb,o,len,cap,hg,hi,hh,rfl⟩:=hv;rw[hg]at e1;simp only[AMO,APl]at e1;obtain⟨e5,e6⟩:=e1;subst e5;obtain rfl:=ARM e6;have X5:=dh k.within k.boxes k.st hb hp hg hh;simp only[Rd]at X5;obtain⟨a',cap',ee,_,X5⟩:=X5;simp only[ARF,Value.slice.injEq,ARx]at ee;obtain⟨rfl,rfl,rfl⟩:=ee;rcases X5 with X5|⟨b1,o1,e7,hb1,X5⟩
    ·omega
    ·cases e7
     obtain⟨cs,c1,c2,c3⟩:=X5 i _ (RO hi);simp only[AP.mk,VR];refine⟨bb,o+i*q1.n,cs,by rw[Pe],by simpa using k.T _ hb1,c1,c2,by simpa using F5 k.T (fun _ _=>rfl) c3⟩
   simp_all
  simp_all
 |fn f Kk=>
  obtain⟨bs,rfl,hc⟩:=ha;refine⟨fun i hi=>ARl (hc.lt i (by simp_all)) k.len,?_⟩;rw[hv.2];simp only[AP.mk,AWd];rw[Rt.map (f:=id) (fun i b h=>(k.ids i b h).1) hc]
 |qP f rs=>
  simp only[AP.get]at e;split at e
  ·rename_i g rows
   split at e
   case isFalse=>cases e
   rename_i hfg;subst hfg;obtain⟨ps,bc,aS⟩:=hv;refine⟨ps,bc,?_⟩;clear ha bc
   induction rs generalizing rows ps with
   |nil=>
    cases rows with
    |nil=>
     cases ps with
     |nil=>trivial
     |cons _ _=>exact aS.elim
    |cons _ _=>simp[ZY.pt]at e
   |cons r rs ih=>
    cases rows with
    |nil=>simp[ZY.pt]at e
    |cons q rows=>
     cases ps with
     |nil=>exact aS.elim
     |cons p ps=>
      simp only[ZY.pt,AMi,AMU]at e;obtain⟨x1,e1,x2,e2,rfl⟩:=e;obtain⟨q1,q2⟩:=q;obtain⟨e3,e4⟩:=IW e1;dsimp only at e3;subst e3;subst e4;obtain⟨⟨bb,o,cs,h1,h2,h3,h4,h5⟩,aS⟩:=aS;exact⟨⟨bb,o,cs,h1,k.T bb (.inl h2),h3,h4,F5 (fun b hb=>k.T b (.inl hb)) (fun _ _=>rfl) h5⟩,ih rows e2 ps aS⟩
  ·rename_i g bs
   split at e
   case isFalse=>cases e
   rename_i hfg;subst hfg;obtain⟨bc,aS⟩:=hv;refine⟨bs.map fun b=>Value.pointer (some ⟨E.ID b,0,none⟩),aS,?_⟩;clear ha bc aS
   induction rs generalizing bs with
   |nil=>
    cases bs with
    |nil=>trivial
    |cons _ _=>simp[ZY.o7]at e
   |cons r rs ih=>
    cases bs with
    |nil=>simp[ZY.o7]at e
    |cons b bs=>
     simp only[ZY.o7,AMi,AMU]at e;obtain⟨x1,e1,x2,e2,rfl⟩:=e;split at e1
     case h_2=>cases e1
     rename_i cs hb;obtain⟨F,⟨hF,arr,ty,fr,ha,hu,V6⟩,UI⟩:=k.boxes.get hb;have X5:=gU k.within k.boxes k.st V6 e1;refine⟨⟨E.ID b,0,arr.toList,rfl,k.T _ (.inr (UI _ (by simp_all))),kN X5,?_,F5 k.T (fun _ _=>rfl) X5⟩,ih bs e2⟩;intro j u hj;simp only[AR5,World.cell?,ha,AR0,AMZ,AQb];simp_all
  simp_all
 |any=>trivial
 |jy i sz=>
  obtain⟨b,q,j,rfl,hm⟩:=ha;have hi:=(AMX.1 hm).1;simp only[AP.get,AMO]at e;subst e;simp only[AP.mk,id,VR];have hsl:=hv.1;refine⟨hsl,?_⟩;cases e1:wR[i]? with
  |none=>simp at e1;have:=k.len;omega
  |some B=>
   cases B with
   |sl d r rows=>
    obtain⟨b',d',h1,h2⟩:=k.sl i d r rows hi e1;rw[hm]at h1;cases h1;simp only[VR,h2]at hv
    replace hv:=hv.2
    refine⟨hv.1,hv.2.1,?_⟩;rw[(k.ids i b hm).2];simp_all
   |_=>trivial
theorem nH:∀{l:List AP} {xs:List AV} {vs:List Value},iy E w bx xs vs→CX (Rv N m) l xs→ ∀{y:X7.V l},X7.get bk l xs=some y→iy E1 w wR (X7.mk id l y) vs
 |[],[],[],_,_,_,_=>trivial
 |p::l,x::xs,v::vs,hv,ha,y,e=>by
  simp only[X7.get,AMi,AMU]at e;obtain⟨a,e1,b,e2,rfl⟩:=e;exact⟨yA k hv.1 ha.1 e1,nH hv.2 ha.2 e2⟩
 |[],[],_::_,hv,_,_,_=>hv.elim
 |_::_,_::_,[],hv,_,_,_=>hv.elim
 |[],_::_,_,_,ha,_,_=>ha.elim
 |_::_,[],_,_,ha,_,_=>ha.elim
theorem sM:∀{l:List (AP ⊕ List AP)} {xs:List (AV ⊕ List AV)} {vs:List Value},CX (TR E w bx) xs vs→CX (fp N m) l xs→ ∀{y:YK.V l},YK.get bk l xs=some y→
  CX (TR E1 w wR) (YK.mk id l y) vs
 |[],[],[],_,_,_,_=>trivial
 | .inl p::l,.inl x::xs,v::vs,hv,ha,y,e=>by
  simp only[YK.get,AMi,AMU]at e;obtain⟨a,e1,b,e2,rfl⟩:=e;exact⟨yA k hv.1 ha.1 e1,sM hv.2 ha.2 e2⟩
 | .inr p::l,.inr x::xs,v::vs,hv,ha,y,e=>by
  simp only[YK.get,AMi,AMU]at e;obtain⟨a,e1,b,e2,rfl⟩:=e;obtain⟨⟨us,hu,hus⟩,h2⟩:=hv;exact⟨⟨us,hu,nH k hus ha.1 e1⟩,sM h2 ha.2 e2⟩
 | .inl _::_,.inr _::_,_,_,ha,_,_=>ha.1.elim
 | .inr _::_,.inl _::_,_,_,ha,_,_=>ha.1.elim
 |[],[],_::_,hv,_,_,_=>hv.elim
 |_::_,_::_,[],hv,_,_,_=>hv.elim
 |[],_::_,_,_,ha,_,_=>ha.elim
 |_::_,[],_,_,ha,_,_=>ha.elim
theorem ANF{p:XP}{x:XV}{v:Value}(hv:XR E w bx x v)(ha:aw N m p x){y:p.V}(e:p.get bk x=some y):XR E1 w wR (p.mk id y) v:=by
 cases p with
 |c p=>cases x with
  |c x=>exact yA k hv ha (by grind[XP.get])
  |_=>exact ha.elim
 |agg l=>cases x with
  |agg xs=>
   obtain⟨vs,rfl,V6⟩:=hv;exact⟨vs,rfl,nH k V6 ha (by grind[XP.get])⟩
  |_=>exact ha.elim
 |row r=>cases x with
  |agg xs=>
   obtain⟨vs,rfl,V6⟩:=hv;exact⟨vs,rfl,hY k.within k.boxes k.st k.T V6 (by grind[XP.get])⟩
  |_=>exact ha.elim
 |Nr l=>cases x with
  |Nr xs=>
   obtain⟨vs,rfl,V6⟩:=hv;exact⟨vs,rfl,sM k V6 ha (by grind[XP.get])⟩
  |_=>exact ha.elim
theorem sI{tm:List XV}{vals:List Value}(htm:CX (XR E w bx) tm vals):∀{l:List (Nat×XP)},(∀q∈l,∃x,tm[q.1]? =some x∧aw N m q.2 x)→ ∀{y:G8.V l},G8.get bk tm l=some y→
  OS E1 w wR id l y vals
 |[],_,_,_=>trivial
 |(i,p)::l,ha,y,e=>by
  obtain⟨x,hx,hax⟩:=ha (i,p) (by simp);simp only[G8.get,hx,AMi,AMU]at e;obtain⟨a,e1,b,e2,rfl⟩:=e;obtain⟨v,hv,hr⟩:=htm.get hx;exact⟨⟨v,hv,ANF k hr hax e1⟩,sI htm (fun q hq=>ha q (by simp[hq])) e2⟩
end
structure tv (E:Env) (w:World) (bx:List Bx) (m:Pm) (s:BE) (x:s.V) (vals:List Value) (E1:Env):Prop where
 boxes:C7 E1 w (J1.mk id s.G3 x.2) (J1.mk id s.G3 x.2) []
 EM:OS E1 w (J1.mk id s.G3 x.2) id s.EM x.1 vals
 ids:∀(i b:Nat),m[i]? =some (some b)→E1.ID i=E.ID b∧E1.IE i=E.IE b
 inj:oC m
 len:m.length=s.G3.length
 S:∀c,E.S c→E1.S c
 y_:∀c,E1.S c→E.S c∨ ¬E.T c
 T:∀c,E.T c→E1.T c
 rest:∃Fk,Ns E w bx (Ct bx m) Fk∧Fk.flatten.Nodup∧(∀c∈Fk.flatten,¬E.T c∧ ¬E1.S c∧c<w.heap.size∧E1.T c)∧(∀c,E1.T c→E.T c∨E1.S c∨c∈Fk.flatten)
theorem jZ{E:Env}{w:World}{bx:List Bx}{tm:List XV}{vals:List Value}(hB:C7 E w bx bx [])(htm:CX (XR E w bx) tm vals){s:BE}{m0 m:Pm}{x:s.V}
  {N:Nat} (vv:∀(i:Nat) d r,s.G3[i]? =some (.sl d r)→E.IE (N+i)= .slice none 0 0) (hlen:m0.length=s.G3.length) (AFF:oC m0) (e:s.fit N m0 tm bx=some (x,m)):Ext m0 m∧ ∃E1,tv E w bx m s x vals E1:=by
 simp only[BE.fit,AMi,AMU]at e;obtain⟨m1,e1,m2,e2,a,e3,c,e4,e5⟩:=e;cases e5;obtain⟨a1,a2,a3⟩:=dP e1;obtain⟨b1,b2,b4,b3⟩:=WY e2;have hi:oC m:=b3 (a3 AFF);have wV:m.length=s.G3.length:=by rw[b1.1,a1.1,hlen]
 refine⟨a1.trans b1,?_⟩;obtain⟨Gs,g1,g2,g3⟩:=m_ hi hB;obtain⟨q1,q2⟩:=Rr (JT:=id) e4;have st:=hB.st
 let R:Nat→List Nat→List Nat→List Nat→Prop:=fun k G F W=>
  match s.G3[k]? with
  |some (.sl d r)=> ∀(b d':Nat) (rows:List r.D),m[k]? =some (some b)→bx[b]? =some (.sl d' r rows)→Ow w (fun c=>E.S c∨c∈W) d (.sl r) [E.IE b] rows F
  |some (.mem q)=>F=G∧W=[]
  |_=>F=[]∧W=G
 have AQe:∀(k:Nat) G,Gs[k]? =some G→ ∃F W,G.Perm (F++W)∧R (0+k) G F W:=by
  intro k G hG;rw[AR5];have hk:k<s.G3.length:=by
   grind
  have hp:s.G3[k]? =some s.G3[k]:=AMJ hk;cases hb:s.G3[k]with
  |mem q=>exact⟨G,[],by simp,by grind⟩
  |gone=>exact⟨[],G,by simp,by grind⟩
  |sl d r=>
   obtain⟨y,y1,b,d',y2,y3,y4,y5⟩:=q2 k _ (hp.trans (by rw[hb]));obtain⟨_,ho⟩:=g2 k b _ G y2 y3 hG;grind[KU]
 obtain⟨Fs,Ws,f1,f2,f3,f4⟩:=qE Gs 0 AQe;obtain⟨Fk,k1,k2⟩:=g3;simp only[AN8]at k2;have aN:Sep E w (Fk.flatten++(Fs.flatten++Ws.flatten)):=k2.perm (AU2 _ f3)
 let E1:Env:={
   ID:=fun i=>match m[i]? with|some (some b)=>E.ID b|_=>0
   IE:=fun i=>match m[i]? with|some (some b)=>E.IE b|_=> .nilFunc
   S:=fun c=>E.S c∨c∈Ws.flatten
   T:=fun c=>E.T c∨c∈Ws.flatten∨c∈Fk.flatten }
 have ACD:∀(i b:Nat),m[i]? =some (some b)→E1.ID i=E.ID b∧E1.IE i=E.IE b:=fun i b h=>by grind
 have fe:ADp N E w bx (Ct bx m) Fk m E1 (J1.mk id s.G3 c):={
  within:=SN (FM.refl bx)
  boxes:=k1
  st:=st
  T:=fun d hd=>hd.elim .inl fun h=> .inr (.inr h)
  S:=fun d hd=> .inl hd
  ids:=ACD
  len:=by omega
  nil:=fun i d r rows e=>by
   have hk:i<s.G3.length:=by
    grind
   obtain⟨y,y1,_⟩:=q2 i _ (AMJ hk);have hp:=AMJ hk;rw[e]at y1
   generalize s.G3[i]=P at y y1 hp
   cases P with
   |mem q=>cases y1
   |gone=>cases y1
   |sl d0 r0=>grind
  sl:=fun i d r rows hi e=>by
   have hk:i<s.G3.length:=by omega
   obtain⟨y,y1,y2⟩:=q2 i _ (AMJ hk);rw[e]at y1
   generalize s.G3[i]=P at y y1 y2
   cases P with
   |mem q=>cases y1
   |gone=>cases y1
   |sl d0 r0=>
    simp only[BP.mk,AMO,Bx.sl.injEq]at y1;grind }
 have nd:=aN.nodup;have AEM:∀c∈Fs.flatten,¬E1.T c:=by
  intro d hd h;rcases h with h|h|h
  ·exact aN.free d (by simp[hd]) h
  all_goals grind
 have AO9:OS E1 w (J1.mk id s.G3 c) id s.EM a vals:=sI fe htm (fun q hq=>let⟨x,h1,h2⟩:=a2 q hq;⟨x,h1,aw.ext b1 h2⟩) e3;refine⟨E1,tv.mk ?_ AO9 ACD hi wV (fun d hd=> .inl hd) ?_ (fun d hd=> .inl hd) ⟨Fk,k1,(AP2.1 nd).1,fun d hd=>⟨aN.free d (by simp[hd]),?_,aN.lt d (by simp[hd]),.inr (.inr hd)⟩,?_⟩⟩
 ·refine⟨Fs,⟨by simp_all,fun k B F hk hF=> ?_⟩,?_⟩
  ·have hkl:k<s.G3.length:=by
    grind
   have hp:s.G3[k]? =some s.G3[k]:=AMJ hkl;obtain⟨y,y1,y2⟩:=q2 k _ hp;rw[hk]at y1;cases y1;have hG:Gs[k]? =some (Gs[k]'(by omega)):=AMJ _;have hW:Ws[k]? =some (Ws[k]'(by omega)):=AMJ _;have hr:=f4 k _ F _ hG hF hW;rw[AR5]at hr;have AUD:∀d∈Ws[k]'(by omega),d∈Ws.flatten:=fun d hd=>ARc.2 ⟨_,AQq hW,hd⟩
   generalize AdG:s.G3[k]=P at y y2 hp
   have ASf:=fun q=>b2 k q
   simp only[R,hp]at hr;cases P with
   |mem q=>
    obtain⟨b,cs,z1,z2,z3⟩:=y2;obtain⟨rfl,hW0⟩:=hr;obtain⟨hFe,arr,ty,fr,h1,h2,h3⟩:=g2 k b _ _ z1 z2 hG;obtain⟨b',dL,t1,t2,t3⟩:=ASf q hp;rw[AR5,z1]at t1;cases t1;rw[z2]at t2;cases t2;refine⟨by simp_all,arr,ty,fr,by simp_all,h2,nH fe h3 t3 z3⟩
   |sl d r=>
    obtain⟨b,d',z1,z2,z3,z4⟩:=y2;have:=hr b d' y z1 z2;refine⟨z3,?_⟩;rw[(ACD k b z1).2];exact EU (fun d hd=>hd.elim .inl fun h=> .inr (AUD d h)) (fun _ _=>rfl) (fun _ _=>rfl) this
   |gone=>exact hr.1
  ·simp only[AN8]
   refine⟨(AP2.1 (AP2.1 nd).2.1).1,AEM,fun d hd=>aN.lt d (by simp[hd]),fun d hd=>hd.elim (fun h=> .inl (st d h)) (fun h=> .inr (.inl h)),fun d hd=> ?_⟩;rcases hd with hd|hd|hd
   ·exact aN.cf d hd
   ·exact aN.lt d (by simp[hd])
   ·exact aN.lt d (by simp[hd])
 ·intro d hd
  exact hd.elim .inl fun h=> .inr (aN.free d (by simp[h]))
 ·intro h
  rcases h with h|h
  ·exact aN.free d (by simp[hd]) (st d h)
  grind
 grind
end Go.Fw
end
section
namespace Go.Fw
def zv:Ty→Value
 | .int k=> .int k 0
 | .bool=> .bool false
 | .str=> .string ⟨#[]⟩
 |_=> .slice none 0 0
def Ek:Ty→List Value
 | .cons c r=>zv c::Ek r
 | .unit=>[]
 |t=>[zv t]
def Ty.cell:Ty→Bool
 | .unit| .cons _ _=>false
 |_=>true
def Ty.sV:Ty→Bool
 | .cons c r=>c.cell&&r.sV
 |_=>true
def eqZ:Value→Value→Bool
 | .int k n,.int k' n' =>decide (k=k')&&decide (n=n')
 | .bool a,.bool b=>decide (a=b)
 | .string a,.string b=>decide (a.data.toList=[])&&decide (b.data.toList=[])
 | .slice none a b,.slice none c d=>decide (a=c)&&decide (b=d)
 |_,_=>false
theorem AOB{a b:Value}(h:eqZ a b=true):a=b:=by
 unfold eqZ at h;split at h
 ·simp_all
 ·simp_all
 ·rename_i a b
  simp at h;obtain⟨h1,h2⟩:=h;cases a;cases b;simp_all
 all_goals simp_all
def AAS:List Value→List Value→Bool
 |[],[]=>true
 |a::l,b::m=>eqZ a b&&AAS l m
 |_,_=>false
theorem yq:∀{l m:List Value},AAS l m=true→l=m
 |[],[],_=>rfl
 |a::l,b::m,h=>by
  simp only[AAS,AMY]at h;rw[AOB h.1,yq h.2]
 |[],_::_,h=>by simp[AAS]at h
 |_::_,[],h=>by simp[AAS]at h
def gn(P:Program)(t:Nat):TD→Prop
 | .int k=>P.underlying t=some (.int k)
 | .bool=>P.underlying t=some .bool
 | .str=>P.underlying t=some .string
 | .sl e=>P.underlying t=some (.slice e)
 | .ptr e=>P.underlying t=some (.pointer e)
 | .st fs=> ∃fields,P.underlying t=some (.struct fields)∧fields.toList.map (fun f=>(f.offset,f.type))=fs∧(∀f∈fields.toList,f.name≠ "_" ∧ ∃i,P.info? f.type=some i∧i.size≠0)∧
  P.stoodInHeld t=false∧P.eqGuardType P.depth t=false
 | .other=> ∃d,P.underlying t=some d∧d.isRow=false
structure AUS (P:Program) (T:J0) (t:Nat) (ti:TI):Prop where
 info:∃i,P.info? t=some i∧i.size=ti.size∧i.bytes=ti.bytes∧(∀r,ti.row=some r→r.sV=true∧ ∃z,i.zero=some z∧z.cells.toList=Ek r)
 und:gn P t ti.desc
def Ei(P:Program)(T:J0):Prop:= ∀t ti,T.get t=some ti→AUS P T t ti
def sZ(P:Program)(T:J0)(t:Nat)(ti:TI):Bool:=
 (match P.info? t with
  |some i=>decide (i.size=ti.size)&&decide (i.bytes=ti.bytes)&&(match ti.row with
   |some r=>r.sV&&(match i.zero with
    |some z=>AAS z.cells.toList (Ek r)
    |none=>false)
   |none=>true)
  |none=>false)&&
 (match ti.desc,P.underlying t with
  | .int k,some (.int k')=>decide (k=k')
  | .bool,some .bool=>true
  | .str,some .string=>true
  | .sl e,some (.slice e')=>decide (e=e')
  | .ptr e,some (.pointer e')=>decide (e=e')
  | .st fs,some (.struct fields)=>decide (fields.toList.map (fun f=>(f.offset,f.type))=fs)&&
    fields.toList.all (fun f=>decide (f.name≠ "_")&&(match P.info? f.type with|some i=>decide (i.size≠0)|none=>false))&&
    !P.stoodInHeld t&& !P.eqGuardType P.depth t
  | .other,some d=> !d.isRow
  |_,_=>false)
theorem s5{P:Program}{T:J0}{t:Nat}{ti:TI}(h:sZ P T t ti=true):AUS P T t ti:=by
 unfold sZ at h;rw[AMY]at h;obtain⟨h1,h2⟩:=h;constructor
 ·split at h1
  ·rename_i i hi
   simp only[AMY,AOV]at h1;refine⟨i,hi,h1.1.1,h1.1.2,fun r hr=> ?_⟩;obtain⟨_,h3⟩:=h1;rw[hr]at h3;dsimp only at h3;rw[AMY]at h3;grind[yq]
  simp_all
 ·split at h2
  ·grind[gn]
  ·grind[gn]
  ·grind[gn]
  ·grind[gn]
  ·grind[gn]
  ·rename_i fs fields hd hu
   simp only[hd,gn];grind
  all_goals grind[gn]
def ADu(P:Program)(T:J0):Bool:=T.all fun q=>sZ P T q.1 q.2
theorem J0.get_mem:∀{T:J0} {t:Nat} {ti:TI},T.get t=some ti→(t,ti)∈T
 |(u,i)::l,t,ti,h=>by
  simp only[J0.get]at h;split at h
  ·rename_i e;cases h;subst e;simp
  ·exact AWW _ (J0.get_mem h)
 |[],_,_,h=>by simp[J0.get]at h
theorem pg{P:Program}{T:J0}(h:ADu P T=true):Ei P T:=fun t ti e=>
 s5 (by simpa using ARv.1 h (t,ti) (J0.get_mem e))
section
variable{P:Program} {T:J0} (hT:Ei P T)
include hT
theorem Ei.size{t:Nat}{ti:TI}(e:T.get t=some ti):(P.info? t).map (·.size)=some ti.size:=by
 obtain⟨i,h1,h2,_⟩:=(hT t ti e).info;simp_all
theorem Ei.sizeOf{t:Nat}{ti:TI}(e:T.get t=some ti)(w:World):(Go.sizeOf t).run P w= .ok ti.size w:=by
 obtain⟨i,h1,h2,_⟩:=(hT t ti e).info;simp[Go.sizeOf,typeInfo,h1,h2]
omit hT in
theorem BW{t:Nat}{d:TypeDesc}(h:P.underlying t=some d)(w:World):(Go.underlying t).run P w= .ok d w:=by
 simp[Go.underlying,h]
theorem Ei.isAgg{t:Nat}{ti:TI}(e:T.get t=some ti)(w:World):(Go.isAgg t).run P w= .ok ti.desc.agg w:=by
 have hu:=(hT t ti e).und;unfold Go.isAgg;cases hd:ti.desc<;>rw[hd]at hu<;>simp only[gn]at hu
 case st fs=>
  obtain⟨fields,hu,_⟩:=hu;simp[BW hu,TD.agg]
 case other=>
  obtain⟨d,hu,hd⟩:=hu;rw[Sem.run_bind,BW hu];cases d<;>simp_all[TypeDesc.isRow,TD.agg]
 all_goals simp[BW hu,TD.agg]
end
end Go.Fw
end
section
namespace Go.Fw
def L7{Y:Type}(P:Program)(o:Oper)(E:Env)(σ:St)(a:Act)(w:World)(k:K Y)(y:Y):Prop:=
 ∃v w' E' x σ',((execOp a.eval o).run P w= .ok (.value v) w'∨((execOp a.eval o).run P w= .ok .skip w'∧v=undef))∧Rel E' σ' a w'∧XR E' w' σ'.bx x v∧Rg (Kd (fun _=>none) σ o.op) E σ.bx w E' σ'.bx w'∧
  σ'.tm.length=σ.tm.length∧k x σ' =some y
section
variable{Y:Type} {P:Program} {T:J0} {o:Oper} {E:Env} {σ:St} {a:Act} {w:World} {k:K Y} {y:Y}
theorem L7.same(h:Rel E σ a w){v:Value}{x:XV}(hr:(execOp a.eval o).run P w= .ok (.value v) w)(hx:XR E w σ.bx x v)(hk:k x σ=some y):L7 P o E σ a w k y:=
 ⟨v,w,E,x,σ,.inl hr,h,hx,Rg.refl _ E σ.bx w,rfl,hk⟩
theorem ak{vw:List Bx}{κ:IntKind}{n:Int}{v:Value}(h:VR E w vw (.v (.int κ) n) v):v= .int κ n:=by
 have:=h.2;grind[Rd]
theorem Rj{vw:List Bx}{b:Bool}{v:Value}(h:VR E w vw (.v .bool b) v):v= .bool b:=by
 have:=h.2;grind[Rd]
theorem Xx{vw:List Bx}{s:ABY}{v:Value}(h:VR E w vw (.v .str s) v):v= .string ⟨s.toArray⟩:=by
 have:=h.2;grind[Rd]
theorem VR.int{vw:List Bx}(κ:IntKind)(n:Int):VR E w vw (.v (.int κ) n) (.int κ n):=⟨rfl,by rfl⟩
theorem VR.bool{vw:List Bx}(b:Bool):VR E w vw (.v .bool b) (.bool b):=⟨rfl,by rfl⟩
theorem VR.str{vw:List Bx}(s:ABY):VR E w vw (.v .str s) (.string ⟨s.toArray⟩):=⟨rfl,by rfl⟩
theorem WR(s:ABY):ByteArray.toList ⟨s.toArray⟩=s:=by
 simp_all
theorem tZ(a b:ABY):(⟨a.toArray⟩:ByteArray)++⟨b.toArray⟩=⟨(a++b).toArray⟩:=by
 rfl
theorem vD(op:BinOp)(t:TypeId)(x y:Operand)(u v:Value)(hu:∀l,u≠ .agg l)(hn:u≠ .nilIface)(w:World):(eqGuard op t x y u v).run P w= .ok () w:=by
 unfold eqGuard;simp_all
theorem vN{op:BinOp}{κ:IntKind}{m n:Int}{k:AV→Option Y}{y:Y}(e:fQ op κ m n k=some y)(t:TypeId)(w:World):
  ∃z v,k z=some y∧(binOp op t (.int κ m) (.int κ n)).run P w= .ok v w∧ ∀E vw,VR E w vw z v:=by
 cases op with
 |add=>exact⟨_,.int κ (κ.wrap (m+n)),e,by simp[binOp,Op.intArith],fun _ _=>VR.int _ _⟩
 |sub=>exact⟨_,.int κ (κ.wrap (m-n)),e,by simp[binOp,Op.intArith],fun _ _=>VR.int _ _⟩
 |mul=>exact⟨_,.int κ (κ.wrap (m*n)),e,by simp[binOp,Op.intArith],fun _ _=>VR.int _ _⟩
 |and=>exact⟨_,.int κ (κ.wrap (BitVec.ofInt κ.bits m &&& BitVec.ofInt κ.bits n).toNat),e,by simp[binOp,Op.intBits],fun _ _=>VR.int _ _⟩
 |or=>exact⟨_,.int κ (κ.wrap (BitVec.ofInt κ.bits m ||| BitVec.ofInt κ.bits n).toNat),e,by simp[binOp,Op.intBits],fun _ _=>VR.int _ _⟩
 |xor=>exact⟨_,.int κ (κ.wrap (BitVec.ofInt κ.bits m ^^^ BitVec.ofInt κ.bits n).toNat),e,by simp[binOp,Op.intBits],fun _ _=>VR.int _ _⟩
 |andNot=>exact⟨_,.int κ (κ.wrap (BitVec.ofInt κ.bits m &&& ~~~BitVec.ofInt κ.bits n).toNat),e,by simp[binOp,Op.intBits],fun _ _=>VR.int _ _⟩
 |eql=>exact⟨_,.bool (m==n),e,by simp[binOp,Op.intCmp],fun _ _=>VR.bool _⟩
 |neq=>exact⟨_,.bool (m !=n),e,by simp[binOp,Op.intCmp],fun _ _=>VR.bool _⟩
 |lss=>exact⟨_,.bool (decide (m<n)),e,by simp[binOp,Op.intCmp],fun _ _=>VR.bool _⟩
 |leq=>exact⟨_,.bool (decide (m≤n)),e,by simp[binOp,Op.intCmp],fun _ _=>VR.bool _⟩
 |gtr=>exact⟨_,.bool (decide (m>n)),e,by simp[binOp,Op.intCmp],fun _ _=>VR.bool _⟩
 |geq=>exact⟨_,.bool (decide (m≥n)),e,by simp[binOp,Op.intCmp],fun _ _=>VR.bool _⟩
 |quo=>
  simp only[fQ]at e;split at e
  ·cases e
  ·rename_i hz
   exact⟨_,.int κ (κ.wrap (m.tdiv n)),e,by simp[binOp,Op.intDiv,hz],fun _ _=>VR.int _ _⟩
 |rem=>
  simp only[fQ]at e;split at e
  ·cases e
  ·rename_i hz
   exact⟨_,.int κ (m.tmod n),e,by simp[binOp,Op.intDiv,hz],fun _ _=>VR.int _ _⟩
 |_=>simp[fQ]at e
theorem fM{op:BinOp}{κ κ':IntKind}{m n:Int}{k:AV→Option Y}{y:Y}(e:Yg op κ m n k=some y)(t:TypeId)(w:World):
  ∃z v,k z=some y∧(binOp op t (.int κ m) (.int κ' n)).run P w= .ok v w∧ ∀E vw,VR E w vw z v:=by
 unfold Yg at e;split at e
 ·cases e
 ·rename_i hn
  cases op with
  |shl=>exact⟨_,.int κ (κ.wrap (m*2^min n.toNat κ.bits)),e,by simp[binOp,Op.shift,hn],fun _ _=>VR.int _ _⟩
  |shr=>exact⟨_,.int κ (m.fdiv (2^min n.toNat κ.bits)),e,by simp[binOp,Op.shift,hn],fun _ _=>VR.int _ _⟩
  |_=>simp at e
theorem vz{op:BinOp}{s u:ABY}{k:AV→Option Y}{y:Y}(e:jO op s u k=some y)(t:TypeId)(w:World):
  ∃z v,k z=some y∧(binOp op t (.string ⟨s.toArray⟩) (.string ⟨u.toArray⟩)).run P w= .ok v w∧ ∀E vw,VR E w vw z v:=by
 have h1:=WR s;have h2:=WR u;cases op with
 |eql=>exact⟨_,.bool (s==u),e,by simp[binOp,Op.stringOp,h1,h2],fun _ _=>VR.bool _⟩
 |neq=>exact⟨_,.bool (!(s==u)),e,by simp[binOp,Op.stringOp,h1,h2],fun _ _=>VR.bool _⟩
 |lss=>exact⟨_,.bool (Op.bytesLess s u),e,by simp[binOp,Op.stringOp,h1,h2],fun _ _=>VR.bool _⟩
 |leq=>exact⟨_,.bool (Op.bytesLess s u||s==u),e,by simp[binOp,Op.stringOp,h1,h2],fun _ _=>VR.bool _⟩
 |gtr=>exact⟨_,.bool (!(Op.bytesLess s u||s==u)),e,by simp[binOp,Op.stringOp,h1,h2],fun _ _=>VR.bool _⟩
 |geq=>exact⟨_,.bool (!Op.bytesLess s u),e,by simp[binOp,Op.stringOp,h1,h2],fun _ _=>VR.bool _⟩
 |add=>
  simp only[jO]at e;split at e
  ·rename_i hl
   refine⟨_,.string ⟨(s++u).toArray⟩,e,?_,fun _ _=>VR.str _⟩;have hs:(⟨s.toArray⟩:ByteArray).size=s.length:=by rfl
   have hu:(⟨u.toArray⟩:ByteArray).size=u.length:=by rfl
   have X9: ¬(((⟨s.toArray⟩:ByteArray).size+(⟨u.toArray⟩:ByteArray).size:Nat):Int)>IntKind.i64.max:=by
    grind[DF,IntKind.max,IntKind.signed,IntKind.bits]
   simp only[binOp,Op.stringOp,Sem.run_ite,AMG X9,tZ];rfl
  simp_all
 |_=>simp[jO]at e
theorem tN{d:TD}{x z:AV}{p:Bool}(e:pP d x z=some p){E:Env}{w:World}{vw:List Bx}{v u:Value}(hx:VR E w vw x v)(hz:VR E w vw z u){t:TypeId}
  (hu:gn P t d) (n:Nat):(Op.equalIn (n+1) t v u).run P w= .ok p w∧d.agg=false:=by
 unfold pP at e;split at e
 ·rename_i κ j a k b
  split at e
  ·rename_i hj
   subst hj;cases e;rw[ak hx,ak hz];exact⟨run_equalIn_int (P:=P) w n t j κ a b hu,rfl⟩
  simp_all
 ·cases e
  rw[Rj hx,Rj hz];exact⟨run_equalIn_bool' (P:=P) w n t _ _ hu,rfl⟩
 ·cases e
  rename_i a b;rw[Xx hx,Xx hz];have q:=run_equalIn_string (P:=P) w n t ⟨a.toArray⟩ ⟨b.toArray⟩ hu;rw[WR,WR]at q;exact⟨q,rfl⟩
 simp_all
theorem fE{T:J0}(hT:Ei P T){E:Env}{w:World}{vw:List Bx}{xs ys:Array Value}:∀{fields:List Field} {i:Nat} {l m:List AV} {vs us:List Value} {r:Bool},
  (∀f∈fields,f.name≠ "_")→iy E w vw l vs→iy E w vw m us→LX T i (fields.map fun f=>(f.offset,f.type)) l m=some r→
  (∀(j:Nat) v,vs[j]? =some v→xs[i+j]? =some v)→(∀(j:Nat) v,us[j]? =some v→ys[i+j]? =some v)→(Op.eqFields 9999 xs ys fields).run P w= .ok r w
 |[],i,[],[],_,_,r,_,_,_,e,_,_=>by
  simp only[AU6,LX,AMO]at e;subst e;rfl
 |f::fs,i,x::l,z::m,v::vs,u::us,r,hn,hx,hz,e,h1,h2=>by
  simp only[AR9,LX]at e;split at e
  case isFalse=>cases e
  rename_i ho;have hv:=h1 0 v rfl;have hu:=h2 0 u rfl;simp only[ASI]at hv hu;have AVn:=hn f (by simp);split at e
  case h_2=>cases e
  rename_i ti VC;split at e
  case h_2=>cases e
  rename_i p hp;simp only[AMU]at e;obtain⟨r',e',rfl⟩:=e;have AZk:=fE hT (fields:=fs) (i:=i+1) (l:=l) (m:=m) (vs:=vs) (us:=us) (r:=r') (fun f hf=>hn f (by simp[hf])) hx.2 hz.2 e'
   (fun j v' hj=>by have:=h1 (j+1) v' (by simp_all);rwa [show i+(j+1)=i+1+j by omega]at this)
   (fun j v' hj=>by have:=h2 (j+1) v' (by simp_all);rwa [show i+(j+1)=i+1+j by omega]at this)
  have iO:=(hT f.type ti VC).und;obtain⟨q,na⟩:=tN (P:=P) hp hx.1 hz.1 (t:=f.type) iO 9998;have iQ:=Ei.isAgg hT VC w;rw[na]at iQ;have p1:(part f.type xs f.offset).run P w= .ok v w:=by simp[part,iQ,ho,hv]
  have p2:(part f.type ys f.offset).run P w= .ok u w:=by simp[part,iQ,ho,hu]
  simp only[Op.eqFields,AVn,ne_eq,not_false_eq_true,ARj,Sem.run_bind,p1,p2,Result.andThen_ok,q,AZk,Sem.run_ite,Sem.run_pure];grind
 |[],_,_::_,_,_,_,_,_,_,_,e,_,_=>by simp[LX]at e
 |[],_,[],_::_,_,_,_,_,_,_,e,_,_=>by simp[LX]at e
 |_::_,_,[],_,_,_,_,_,_,_,e,_,_=>by simp[LX]at e
 |_::_,_,x::_,[],_,_,_,_,_,_,e,_,_=>by simp[LX]at e
 |_::_,_,_::_,_::_,[],_,_,_,hx,_,_,_,_=>hx.elim
 |_::_,_,_::_,_::_,_::_,[],_,_,_,hz,_,_,_=>hz.elim
theorem oY(op:BinOp)(t:TypeId)(p q:Bool)(hu:P.underlying t=some .bool)(w:World):(op= .eql→(binOp op t (.bool p) (.bool q)).run P w= .ok (.bool (p==q)) w)∧
  (op= .neq→(binOp op t (.bool p) (.bool q)).run P w= .ok (.bool (!(p==q))) w):=by
 have h:=run_equalIn_bool' (P:=P) w 9999 t p q hu;constructor
 ·rintro rfl
  grind[binOp,Op.equal,Op.maxDepth,Sem.run_bind,Result.andThen_ok,Sem.run_pure]
 ·rintro rfl
  grind[binOp,Op.equal,Op.maxDepth,Sem.run_bind,Result.andThen_ok,Sem.run_pure]
theorem gX{T:J0}(hT:Ei P T){t:Nat}{op:BinOp}{x z:XV}{k:AV→Option Y}{y:Y}(e:uq T t op x z k=some y){E:Env}{w:World}{vw:List Bx}{v u:Value}
  (hx:XR E w vw x v) (hz:XR E w vw z u) (ox oz:Operand):
  ∃r val,k r=some y∧(do eqGuard op t ox oz v u;binOp op t v u:Sem Value).run P w= .ok val w∧VR E w vw r val:=by
 have guard:∀(v u:Value),(∀l,v≠ .agg l)→v≠ .nilIface→ ∀val,(binOp op t v u).run P w= .ok val w→(do eqGuard op t ox oz v u;binOp op t v u:Sem Value).run P w= .ok val w:=by
  grind[Sem.run_bind,vD,Result.andThen_ok]
 unfold uq at e;split at e
 ·rename_i j m j' n
  have hv:=ak (E:=E) (vw:=vw) hx;have hu:=ak (E:=E) (vw:=vw) hz;subst hv hu;have done:∀(q:∃r val,k r=some y∧(binOp op t (.int j m) (.int j' n)).run P w= .ok val w∧ ∀E vw,VR E w vw r val),∃r val,k r=some y∧(do eqGuard op t ox oz (.int j m) (.int j' n);binOp op t (.int j m) (.int j' n):Sem Value).run P w= .ok val w∧VR E w vw r val:=by
   grind
  split at e
  ·exact done (fM e t w)
  ·exact done (fM e t w)
  ·split at e
   ·rename_i hj
    subst hj;exact done (vN e t w)
   simp_all
 ·rename_i s s'
  have hv:=Xx (E:=E) (vw:=vw) hx;have hu:=Xx (E:=E) (vw:=vw) hz;subst hv hu;obtain⟨r,val,h1,h2,h3⟩:=vz (P:=P) e t w;grind
 ·rename_i p q
  have hv:=Rj (E:=E) (vw:=vw) hx;have hu:=Rj (E:=E) (vw:=vw) hz;subst hv hu;split at e
  ·rename_i ti VC
   have iO:=(hT t ti VC).und;split at e
   ·rename_i hd
    rw[hd]at iO;split at e
    ·exact⟨_,_,e,guard _ _ (by simp) (by simp) _ ((oY _ t p q iO w).1 rfl),VR.bool _⟩
    ·exact⟨_,_,e,guard _ _ (by simp) (by simp) _ ((oY _ t p q iO w).2 rfl),VR.bool _⟩
    simp_all
   simp_all
  simp_all
 ·rename_i l m
  obtain⟨vs,rfl,V6⟩:=hx;obtain⟨us,rfl,hus⟩:=hz;have key:∀r,((T.fields t).bind fun fs=>LX T 0 fs l m)=some r→(Op.equalIn 10000 t (.agg vs) (.agg us)).run P w= .ok r w∧P.eqGuardType P.depth t=false:=by
   intro r hr;simp only[AMi]at hr;obtain⟨fs,hf,hr⟩:=hr;unfold J0.fields at hf;split at hf
   ·rename_i fs' hd
    cases hf;simp only[AMU]at hd;obtain⟨ti,VC,hd⟩:=hd;have iO:=(hT t ti VC).und;rw[hd]at iO;obtain⟨fields,hu,hfs,hnm,qM,hg⟩:=iO;grind[Program.fieldsOf,run_equalIn_agg,fE]
   simp_all
  split at e
  ·rename_i r hr
   obtain⟨q,hg⟩:=key r hr;refine⟨_,_,e,?_,VR.bool r⟩;grind[Sem.run_bind,run_eqGuard_agg,Result.andThen_ok,run_eql_struct]
  ·rename_i r hr
   obtain⟨q,hg⟩:=key r hr;refine⟨_,_,e,?_,VR.bool (!r)⟩;grind[Sem.run_bind,run_eqGuard_agg,Result.andThen_ok,run_neq_struct]
  simp_all
 simp_all
end
end Go.Fw
end
section
namespace Go.Fw
section
variable{Y:Type} {P:Program} {T:J0} (hT:Ei P T) {E:Env} {w:World} {vw:List Bx}
include hT
theorem AF6{t:Nat}{s b:Nat}{fs:List ABg}{rw:Option Ty}(e:T.get t=some ⟨s,b,.st fs,rw⟩):∃fields,P.underlying t=some (.struct fields)∧fields.toList.map (fun f=>(f.offset,f.type))=fs∧
  ∀f∈fields.toList,∃i,P.info? f.type=some i∧i.size≠0:=by
 obtain⟨fields,h1,h2,h3,_⟩:=(hT t _ e).und;simp_all
omit hT in
theorem oB{a:Addr}{f:Field}(h:∃i,P.info? f.type=some i∧i.size≠0):(fieldPlace a f).run P w= .ok (a.add f.offset) w:=by
 obtain⟨i,h1,h2⟩:=h;simp[fieldPlace,Go.sizeOf,typeInfo,h1,h2]
theorem VJ{t:Nat}{s b:Nat}{fs:List ABg}{rw:Option Ty}(e:T.get t=some ⟨s,b,.st fs,rw⟩){f o u:Nat}(hf:fs[f]? =some (o,u)){a:Addr}:
  (Instr.fieldAt t (.pointer (some a)) f).run P w= .ok (.pointer (some (a.add o))) w:=by
 obtain⟨fields,h1,h2,h3⟩:=AF6 hT e;subst h2;simp only[ARa,AMU]at hf;obtain⟨fld,wa,he⟩:=hf;have hm:=AQq wa;have hfa:fields[f]? =some fld:=by simp_all
 simp only[ARK]at he;simp[Instr.fieldAt,BW h1,hfa,Instr.sureAddr,oB (h3 fld hm),he.1]
theorem iL{t:Nat}{x z:XV}{f:Nat}(e:te T t x f=some z){v:Value}(hx:XR E w vw x v):∃u,(Instr.fieldAt t v f).run P w= .ok u w∧XR E w vw z u:=by
 unfold te at e;split at e
 case h_2=>cases e
 rename_i s b fs _ VC;split at e
 case h_2=>cases e
 rename_i o u hf;split at e
 ·rename_i b' j
  cases e;obtain⟨h1,rfl⟩:=hx;exact⟨_,VJ hT VC hf,h1,by rw[Addr.add_eq]⟩
 ·rename_i b' p i sz j
  cases e;obtain⟨h0,h1⟩:=hx;cases v with
  |pointer oa=>
   cases oa with
   |none=>simp[bz]at h0
   |some a=>
    obtain⟨ab,ao,sp⟩:=a;cases sp with
    |some _=>simp[bz]at h0
    |none=>
     refine⟨_,VJ hT VC hf,by rw[Addr.add_eq];rfl,?_⟩;revert h1;split
     ·rintro⟨hp,q,ys,bb,o',len,cap,g1,g2,g3,g4⟩
      refine⟨hp,q,ys,bb,o',len,cap,g1,g2,g3,?_⟩;simp only[Value.pointer.injEq,AMO,Addr.mk.injEq,ARx]at g4;grind[Addr.add_eq,Nat.add_assoc]
     all_goals simp_all
  |_=>simp[bz]at h0
 ·rename_i s r y j
  cases e;obtain⟨bb,o',cs,rfl,h2,h3,h4,h5⟩:=hx;refine⟨_,VJ hT VC hf,bb,o',cs,?_,h2,h3,h4,h5⟩;rw[Addr.add_eq,ASG]
 simp_all
theorem lS{t:Nat}{x z:XV}{f:Nat}(e:ACi T t x f=some z){v:Value}(hx:XR E w vw x v):∃u,(Instr.field t v f).run P w= .ok u w∧XR E w vw z u:=by
 unfold ACi at e;split at e
 case h_2=>cases e
 rename_i s b fs _ l VC;obtain⟨vs,rfl,V6⟩:=hx;split at e
 case h_2=>cases e
 rename_i o u hf;split at e
 case h_2=>cases e
 rename_i ti htu;obtain⟨fields,h1,h2,h3⟩:=AF6 hT VC;subst h2;simp only[ARa,AMU]at hf;obtain⟨fld,wa,he⟩:=hf;have hfa:fields[f]? =some fld:=by simp_all
 simp only[ARK]at he;obtain⟨rfl,rfl⟩:=he;have iQ:=Ei.isAgg hT htu w;have Pe:=Ei.sizeOf hT htu w;split at e
 ·rename_i ha
  cases e;rw[ha]at iQ;refine⟨.agg (vs.extract fld.offset (fld.offset+ti.size)),?_,_,rfl,?_⟩
  ·simp[Instr.field,BW h1,hfa,asAgg,part,iQ,Pe]
  ·have:(vs.extract fld.offset (fld.offset+ti.size)).toList=(vs.toList.drop fld.offset).take ti.size:=by
    simp_all
   rw[this];exact CX.take _ (CX.drop _ V6)
 ·rename_i ha
  simp only[AQv]at ha;rw[ha]at iQ;simp only[AMU]at e;obtain⟨y,hy,rfl⟩:=e;obtain⟨v,hv,hr⟩:=CX.get V6 hy;refine⟨v,?_,hr⟩;have:vs[fld.offset]? =some v:=by simp_all
  simp[Instr.field,BW h1,hfa,asAgg,part,iQ,this]
theorem Kp{t:Nat}{r:Ty}(h:T.Nl t r=true):∃e ti,P.underlying t=some (.slice e)∧T.get e=some ti∧ti.size=r.n∧ti.bytes≤512∧ti.row=some r:=by
 unfold J0.Nl at h;split at h
 ·rename_i ti VC
  simp only[AMY,AOV]at h;unfold J0.elem at VC;split at VC
  ·rename_i e hd
   simp only[AMU]at hd;obtain⟨tj,h1,h2⟩:=hd;have:=(hT t tj h1).und;rw[h2]at this;exact⟨e,ti,this,VC,h.1.1,h.1.2,h.2⟩
  simp_all
 simp_all
theorem Xk{t:Nat}(h:T.isStr t=true):P.underlying t=some .string:=by
 unfold J0.isStr at h;split at h
 ·rename_i hd
  simp only[AMU]at hd;obtain⟨tj,h1,h2⟩:=hd;have:=(hT t tj h1).und;rw[h2]at this;exact this
 simp_all
theorem js{t:Nat}(h:T.AGI t=true):∃e,P.underlying t=some (.slice e):=by
 unfold J0.AGI at h;split at h
 ·rename_i e hd
  simp only[AMU]at hd;obtain⟨tj,h1,h2⟩:=hd;have:=(hT t tj h1).und;rw[h2]at this;exact⟨e,this⟩
 simp_all
omit hT in
theorem Ix{x:XV}{n:Int}(e:da x=some n){v:Value}(hx:XR E w vw x v):∃κ,v= .int κ n:=by
 unfold da at e;split at e
 ·cases e;exact⟨_,ak (E:=E) (w:=w) (vw:=vw) hx⟩
 ·cases e
theorem cx{t:Nat}{r:Ty}(h:T.Nl t r=true){κ:IntKind}{i:Int}{a:Addr}{len cap:Nat}(h0:0≤i)(h1:i<(len:Int)):
  (Instr.indexAt t (.slice (some a) len cap) (.int κ i)).run P w= .ok (.pointer (some (a.add (i.toNat*r.n)))) w:=by
 obtain⟨e,ti,hu,VC,hs,_⟩:=Kp hT h;have Pe:=Ei.sizeOf hT VC w;simp[Instr.indexAt,asIntOf,BW hu,h0,h1,Pe,hs]
omit hT in
theorem yD{bx:List Bx}{Fs:List ABH}(hB:Ns E w bx bx Fs)(st:∀c,E.S c→E.T c){x:AV}{v:Value}(hv:VR E w bx x v){q:Ty}{ys:List q.D}(e:Ng bx x=some ⟨q,ys⟩):
  ∃a cap,v= .slice a ys.length cap∧ys.length≤cap∧(ys.length=0∨ ∃b o,a=some ⟨b,o,none⟩):=by
 have:=Zz (FM.refl bx) hB st hv e;simp only[Rd]at this;obtain⟨a,cap,h1,h2,h3⟩:=this;simp only[ARF,ARx]at h1;exact⟨a,cap,h1,h2,h3.imp id fun⟨b,o,h,_⟩=>⟨b,o,h⟩⟩
theorem jR{σ:St}{Fs:List ABH}(hB:Ns E w σ.bx σ.bx Fs)(st:∀c,E.S c→E.T c){t:Nat}{x i:XV}{k:K Y}{y:Y}(e:jr σ T t x i k=some y){v u:Value}
  (hx:XR E w σ.bx x v) (hi:XR E w σ.bx i u):∃z val,k z σ=some y∧(Instr.indexAt t v u).run P w= .ok val w∧XR E w σ.bx z val:=by
 unfold jr at e;split at e
 ·rename_i s r rows n hn
  obtain⟨κ,rfl⟩:=Ix hn hi;split at e
  case isFalse=>cases e
  rename_i Us;split at e
  case isFalse=>cases e
  rename_i hb;obtain⟨h0,h1⟩:=hb;simp only[XR,VR,Rd]at hx;obtain⟨a,cap,hv,hl,hx⟩:=hx;simp only[ARF,ARx]at hv;subst hv;rcases hx with hx|⟨b,o,rfl,hb,hx⟩
  ·omega
  ·have FW:n.toNat<rows.length:=by omega
   obtain⟨cs,c1,c2,c3⟩:=hx n.toNat _ (RO FW);refine⟨_,_,e,cx hT Us h0 h1,b,o+n.toNat*r.n,cs,?_,by omega,c1,c2,by omega⟩;rw[Addr.add_eq];rfl
 ·rename_i b p n hn
  obtain⟨κ,rfl⟩:=Ix hn hi;split at e
  case h_2=>cases e
  rename_i q hq;split at e
  case isFalse=>cases e
  rename_i Us;split at e
  case isFalse=>cases e
  rename_i hb;obtain⟨h0,h1⟩:=hb
  change VR E w σ.bx (.ref b p) v at hx
  obtain⟨a,cap,rfl,hl,ha⟩:=yD hB st hx hq;rcases ha with ha|⟨b',o,rfl⟩
  ·omega
  ·refine⟨_,_,e,cx hT Us h0 h1,by rw[Addr.add_eq];rfl,?_⟩
   simp only[Ng]at hq;obtain⟨_,hx⟩:=hx;grind[Addr.add_eq]
 ·rename_i b p off n' n hn
  obtain⟨κ,rfl⟩:=Ix hn hi;split at e
  case h_2=>cases e
  rename_i q hq;split at e
  case isFalse=>cases e
  rename_i Us;split at e
  case isFalse=>cases e
  rename_i hb;obtain⟨h0,h1⟩:=hb;simp only[Ng]at hq;obtain⟨h00,hx⟩:=hx;revert hx;split
  ·rename_i d r rows uB
   rw[uB]at hq;dsimp only at hq
   rintro⟨hp,q',ys,a,len,cap,g1,g2,g3,rfl⟩
   have X5:=dh (FM.refl _) hB st uB hp g1 g3;simp only[Rd]at X5;obtain⟨a',cap',ee,hle,X5⟩:=X5;simp only[ARF,Value.slice.injEq,ARx]at ee;obtain⟨rfl,rfl,rfl⟩:=ee;rcases X5 with X5|⟨b',o,rfl,_,_⟩
   ·omega
   ·unfold VP
    rw[AMG (by omega)];have hq1:q.1=q':=by
     grind
    refine⟨_,_,e,cx hT Us h0 h1,by simp only[Option.map];rw[Addr.add_eq,Addr.add_eq];rfl,?_⟩;grind[Addr.add_eq,Nat.add_assoc,Nat.add_mul]
  all_goals simp_all
 simp_all
theorem bt{σ:St}{t:Nat}{x i:XV}{k:K Y}{y:Y}(e:Wu T t σ x i k=some y){v u:Value}(hx:XR E w vw x v)(hi:XR E w vw i u):
  ∃z val,k z σ=some y∧(Instr.index t v u).run P w= .ok val w∧XR E w vw z val:=by
 unfold Wu at e;split at e
 ·rename_i s n hn
  obtain⟨κ,rfl⟩:=Ix hn hi;have hv:=Xx (E:=E) (w:=w) (vw:=vw) hx;subst hv;split at e
  case isFalse=>cases e
  rename_i qM;split at e
  case isFalse=>cases e
  rename_i hb;obtain⟨h0,h1⟩:=hb;refine⟨_,.int .u8 ((s.getD n.toNat 0).toNat:Int),e,?_,VR.int (E:=E) (vw:=vw) _ _⟩;have FW:n.toNat<s.length:=by omega
  have:(⟨s.toArray⟩:ByteArray)[n.toNat]? =some s[n.toNat]:=by
   rw[getElem?_pos _ _ (by grind[ByteArray.size])];rfl
  simp[Instr.index,asIntOf,BW (Xk hT qM),h0,this,FW]
 simp_all
omit hT in
theorem cz{x z:XV}{i:Nat}(e:oD x i=some z){v:Value}(hx:XR E w vw x v):∃u,(Instr.extract v i).run P w= .ok u w∧XR E w vw z u:=by
 unfold oD at e;split at e
 case h_2=>cases e
 rename_i l;obtain⟨vs,rfl,V6⟩:=hx;split at e
 ·rename_i x hx
  cases e;obtain⟨v,hv,hr⟩:=V6.get hx;have:vs[i]? =some v:=by simpa using hv
  exact⟨v,by simp[Instr.extract,this],hr⟩
 ·rename_i q hx
  cases e;obtain⟨v,hv,ws,rfl,hr⟩:=V6.get hx;have:vs[i]? =some (.agg ws):=by simpa using hv
  exact⟨.agg ws,by simp[Instr.extract,this],ws,rfl,hr⟩
 ·cases e
omit hT in
theorem lK{bx:List Bx}{Fs:List ABH}(hB:Ns E w bx bx Fs)(st:∀c,E.S c→E.T c){x:AV}{n:Nat}(e:lenOf bx x=some n){v:Value}(hx:VR E w bx x v):
  ∃a cap,v= .slice a n cap:=by
 cases x with
 |nil=>simp only[lenOf,AMO]at e;subst e;exact⟨_,_,hx⟩
 |sl s r x=>
  simp only[lenOf,AMO]at e;subst e;simp only[VR,Rd]at hx;obtain⟨a,cap,h,_⟩:=hx;simp only[ARF,ARx]at h;exact⟨a,cap,h⟩
 |ref b p=>
  simp only[lenOf]at e;split at e
  ·rename_i d r rows hb
   simp only[AMU]at e;obtain⟨q,hq,rfl⟩:=e;obtain⟨a,cap,h,_⟩:=yD hB st hx (q:=q.1) (ys:=q.2) (by simp only[Ng,hb];exact hq);exact⟨a,cap,h⟩
  ·cases e
 |win b p off m=>
  simp only[lenOf]at e;split at e
  ·rename_i d r rows hb
   cases e;simp only[VR,hb]at hx;obtain⟨_,_,q,ys,a,len,cap,_,_,_,rfl⟩:=hx;exact⟨_,_,rfl⟩
  ·cases e
 |_=>simp[lenOf]at e
omit hT in
theorem UB{big:Bool}{x z:XV}{k:AV→Option Y}{y:Y}(e:tJ big x z k=some y){v u:Value}(hx:XR E w vw x v)(hz:XR E w vw z u)(t s:Array TypeId)(tt:TypeId):
  ∃r val,k r=some y∧(if big then Builtin.max_ t tt #[v,u]else Builtin.min_ t tt #[v,u]).run P w= .ok val w∧VR E w vw r val:=by
 unfold tJ at e;split at e
 ·rename_i j m j' n
  have hv:=ak (E:=E) (w:=w) (vw:=vw) hx;have hu:=ak (E:=E) (w:=w) (vw:=vw) hz;subst hv hu;split at e
  case isFalse=>cases e
  rename_i hj;subst hj;cases big with
  |true=>exact⟨_,.int j (if n>m then n else m),e,by simp[Builtin.max_,Builtin.max2],VR.int _ _⟩
  |false=>exact⟨_,.int j (if n<m then n else m),e,by simp[Builtin.min_,Builtin.min2],VR.int _ _⟩
 ·cases e
omit hT in
theorem kL{op:UnOp}{x:XV}{k:AV→Option Y}{y:Y}(e:unX op x k=some y){v:Value}(hx:XR E w vw x v):
  ∃r val,k r=some y∧(Op.unary op v).run P w= .ok val w∧VR E w vw r val:=by
 unfold unX at e;split at e
 ·have hv:=Rj (E:=E) (w:=w) (vw:=vw) hx
  subst hv;exact⟨_,_,e,by simp[Op.unary],VR.bool _⟩
 ·rename_i j n
  have hv:=ak (E:=E) (w:=w) (vw:=vw) hx;subst hv;exact⟨_,.int j (j.wrap (0-n)),e,by simp[Op.unary,Op.intArith],VR.int _ _⟩
 ·cases e
end
end Go.Fw
end
section
namespace Go.Fw
theorem RM{a:Ty}(x:a.D):oU rfl x=x:=rfl
theorem eQ{w:World}{S:Nat→Prop}:∀{r:Ty} {d j:Nat} {cs:List Value} {x:r.D} {F:ABH} {t:Ty} {y:t.D},Ow w S d r cs x F→BN r j x=some ⟨t,y⟩→
  ∃v F1 F2,cs[j]? =some v∧Ow w S d t [v] y F1∧F.Perm (F1++F2)∧
   ∀(w':World) (S':Nat→Prop) (v':Value) (y':t.D) (nG:ABH) (x':r.D),(∀b,S b→S' b)→(∀b,S b→w'.heap[b]? =w.heap[b]?)→(∀b∈F2,w'.heap[b]? =w.heap[b]?)→
    Ow w' S' d t [v'] y' nG→Dz r j x t y' =some x'→ ∃F',F'.Perm (nG++F2)∧Ow w' S' d r (cs.set j v') x' F'
 | .cons c r,d,0,cs,x,F,t,y,h,e=>by
  simp only[Ow]at h;obtain⟨v,l,A,B,rfl,rfl,h1,h2⟩:=h;simp only[BN,AMO,APl]at e;obtain⟨rfl,e⟩:=e;obtain rfl:=ARM e;refine⟨v,A,B,rfl,h1,AWb _,fun w' S' v' y' nG x' hS rG hF ho hx=> ?_⟩;simp only[Dz,AWR,RM,AMO]at hx;subst hx;refine⟨nG++B,AWb _,?_⟩;simp only[Ow,AR7];exact⟨v',l,nG,B,rfl,rfl,ho,EU hS rG hF h2⟩
 | .cons c r,d,j+1,cs,x,F,t,y,h,e=>by
  simp only[Ow]at h;obtain⟨v,l,A,B,rfl,rfl,h1,h2⟩:=h;simp only[BN]at e;obtain⟨u,F1,F2,k1,k2,k3,k4⟩:=eQ h2 e;refine⟨u,F1,A++F2,by simp_all,k2,?_,fun w' S' v' y' nG x' hS rG hF ho hx=> ?_⟩
  ·grind
  ·simp only[Dz,AMU]at hx
   obtain⟨z,hz,rfl⟩:=hx;obtain⟨F',p1,p2⟩:=k4 w' S' v' y' nG z hS rG (fun b hb=>hF b (by simp[hb])) ho hz;refine⟨A++F',?_,?_⟩
   ·grind
   ·simp only[Ow,List.set_cons_succ]
    exact⟨v,_,A,F',rfl,rfl,EU hS rG (fun b hb=>hF b (by simp[hb])) h1,p2⟩
 | .int k,d,0,cs,x,F,t,y,h,e=>by
  simp only[BN,AMO,APl]at e;obtain⟨rfl,e⟩:=e;obtain rfl:=ARM e;have hc:=Xz h;obtain⟨v,rfl⟩:∃v,cs=[v]:=by
   cases cs with
   |nil=>simp[Ty.n]at hc
   |cons a l=>cases l with
    |nil=>simp_all
    |cons _ _=>simp[Ty.n]at hc
  refine⟨v,F,[],rfl,h,by simp,fun w' S' v' y' nG x' hS rG hF ho hx=>⟨nG,by simp,?_⟩⟩;simp only[Dz,AWR,RM,AMO]at hx;simp_all
 | .bool,d,0,cs,x,F,t,y,h,e=>by
  simp only[BN,AMO,APl]at e;obtain⟨rfl,e⟩:=e;obtain rfl:=ARM e;have hc:=Xz h;obtain⟨v,rfl⟩:∃v,cs=[v]:=by
   cases cs with
   |nil=>simp[Ty.n]at hc
   |cons a l=>cases l with
    |nil=>simp_all
    |cons _ _=>simp[Ty.n]at hc
  refine⟨v,F,[],rfl,h,by simp,fun w' S' v' y' nG x' hS rG hF ho hx=>⟨nG,by simp,?_⟩⟩;simp only[Dz,AWR,RM,AMO]at hx;simp_all
 | .str,d,0,cs,x,F,t,y,h,e=>by
  simp only[BN,AMO,APl]at e;obtain⟨rfl,e⟩:=e;obtain rfl:=ARM e;have hc:=Xz h;obtain⟨v,rfl⟩:∃v,cs=[v]:=by
   cases cs with
   |nil=>simp[Ty.n]at hc
   |cons a l=>cases l with
    |nil=>simp_all
    |cons _ _=>simp[Ty.n]at hc
  refine⟨v,F,[],rfl,h,by simp,fun w' S' v' y' nG x' hS rG hF ho hx=>⟨nG,by simp,?_⟩⟩;simp only[Dz,AWR,RM,AMO]at hx;simp_all
 | .sl r,d,0,cs,x,F,t,y,h,e=>by
  simp only[BN,AMO,APl]at e;obtain⟨rfl,e⟩:=e;obtain rfl:=ARM e;have hc:=Xz h;obtain⟨v,rfl⟩:∃v,cs=[v]:=by
   cases cs with
   |nil=>simp[Ty.n]at hc
   |cons a l=>cases l with
    |nil=>simp_all
    |cons _ _=>simp[Ty.n]at hc
  refine⟨v,F,[],rfl,h,by simp,fun w' S' v' y' nG x' hS rG hF ho hx=>⟨nG,by simp,?_⟩⟩;simp only[Dz,AWR,RM,AMO]at hx;simp_all
 | .unit,_,_,_,_,_,_,_,_,e=>by simp[BN]at e
 | .int _,_,_+1,_,_,_,_,_,_,e=>by simp[BN]at e
 | .bool,_,_+1,_,_,_,_,_,_,e=>by simp[BN]at e
 | .str,_,_+1,_,_,_,_,_,_,e=>by simp[BN]at e
 | .sl _,_,_+1,_,_,_,_,_,_,e=>by simp[BN]at e
theorem jm{Fs:List ABH}{i:Nat}{G G':ABH}(h:Fs[i]? =some G):(Fs.set i G').flatten.Perm (G'++(Fs.set i []).flatten):=by
 have FW:=(AMX.1 h).1;have p1:=VF (Fs:=Fs.set i G') (b:=i) (F:=G') (ARy (by omega));simp_all
theorem so{w:World}{S:Nat→Prop}{d:Nat}{q:Ty}{a:Option Addr}{len cap:Nat}{ys:List q.D}{F:ABH}(h:Ow w S (d+1) (.sl q) [.slice a len cap] ys F){i:Nat}(hi:i<ys.length):
  ∃b o arr ty fr cs G R,a=some ⟨b,o,none⟩∧w.heap[b]? =some (.cells arr ty fr)∧uX fr arr.size∧o+i*q.n+q.n≤arr.size∧cs.length=q.n∧Bb w b (o+i*q.n) cs∧
   Ow w S d q cs (rowAt q ys i) G∧F.Perm (G++(b::R))∧
   ∀(w':World) (S':Nat→Prop) (Kf:Array Value) (dL:List Value) (Zx:q.D) (G':ABH),(∀c,S c→S' c)→(∀c,S c→w'.heap[c]? =w.heap[c]?)→(∀c∈R,w'.heap[c]? =w.heap[c]?)→
    w'.heap[b]? =some (.cells Kf ty fr)→Kf.size=arr.size→(∀k,(k<o+i*q.n∨o+i*q.n+q.n≤k)→Kf[k]? =arr[k]?)→dL.length=q.n→Bb w' b (o+i*q.n) dL→
    Ow w' S' d q dL Zx G'→ ∃F',F'.Perm (G'++(b::R))∧Ow w' S' (d+1) (.sl q) [.slice a len cap] (ys.set i Zx) F':=by
 simp only[Ow]at h;obtain⟨a',cap',e,hle,h⟩:=h;simp only[ARF,Value.slice.injEq,ARx]at e;obtain⟨rfl,rfl,rfl⟩:=e;rcases h with⟨h1,_⟩|⟨b,o,arr,ty,fr,Fs,rfl,hb,Pe,hu,rfl,hFl,cC⟩
 ·omega
 ·have hG:Fs[i]? =some (Fs[i]'(by omega)):=AMJ _
  generalize Fs[i]'(by omega)=G at hG
  obtain⟨cs,c1,c2,c3⟩:=cC i _ G (RO hi) hG;have hbound:o+i*q.n+q.n≤arr.size:=by
   have:(i+1)*q.n≤cap*q.n:=AQY _ (by omega);grind
  refine⟨b,o,arr,ty,fr,cs,G,(Fs.set i []).flatten,rfl,hb,fun i hi=>hu i (by omega),hbound,c1,c2,c3,?_,?_⟩
  ·refine(List.Perm.cons b (VF hG)).trans ?_
   exact List.perm_middle.symm
  ·intro w' S' Kf dL Zx G' hS rG hR rT y7 hk ZF hca ho
   refine⟨b::(Fs.set i G').flatten,?_,?_⟩
   ·grind[List.Perm.cons,jm,trans]
   ·simp only[Ow]
    refine⟨_,cap,by simp,by simp_all,.inr ⟨b,o,Kf,ty,fr,Fs.set i G',rfl,rT,by omega,by simp_all,rfl,by simp_all,fun k y H hy hH=> ?_⟩⟩;by_cases e:k=i
    ·grind
    ·rw[ARd (by omega)]at hy
     rw[ARd (by omega)]at hH;obtain⟨ds,d1,d2,d3⟩:=cC k y H hy hH;refine⟨ds,d1,fun j v hj=> ?_,EU hS rG (fun c hc=>hR c (ARc.2 ⟨H,AQq (by grind:(Fs.set i [])[k]? =some H),hc⟩)) d3⟩;have wT:=(AMX.1 hj).1;have hold:=d2 j v hj;simp only[World.cell?,hb,AR0,AMZ,AQb]at hold;simp only[World.cell?,rT,AR0,AMZ,AQb];rw[hk,hold];rcases Nat.lt_or_gt_of_ne e with e|e
     ·left
      have:(k+1)*q.n≤i*q.n:=AQY _ e;grind
     ·right
      have:(i+1)*q.n≤k*q.n:=AQY _ e;grind
theorem oO{w:World}{S:Nat→Prop}:∀{p:List Wo} {d:Nat} {r:Ty} {h:Value} {rows:List r.D} {F:ABH} {q:Ty} {ys:List q.D},Ow w S d (.sl r) [h] rows F→DG r rows p→
  HE r rows p=some ⟨q,ys⟩→p.length<d→ ∃h' F1 F2,JB w h p=some h'∧Ow w S (d-p.length) (.sl q) [h'] ys F1∧F.Perm (F1++F2)∧
   ∀(w':World) (S':Nat→Prop) (uC:List q.D) (nG:ABH) (Cz:List r.D),(∀c,S c→S' c)→(∀c,S c→w'.heap[c]? =w.heap[c]?)→(∀c∈F2,w'.heap[c]? =w.heap[c]?)→
    Ow w' S' (d-p.length) (.sl q) [h'] uC nG→pA r rows p q uC=some Cz→ ∃F',F'.Perm (nG++F2)∧Ow w' S' d (.sl r) [h] Cz F'
 |[],d,r,h,rows,F,q,ys,ho,_,hg,_=>by
  simp only[HE,AMO,APl]at hg;obtain⟨rfl,e⟩:=hg;obtain rfl:=ARM e;refine⟨h,F,[],DB,ho,by simp,fun w' S' uC nG Cz _ _ _ wW hs=>⟨nG,by simp,?_⟩⟩;simp only[pA,AWR,RM,AMO]at hs;simp_all
 |s::p,d,r,h,rows,F,q,ys,ho,hp,hg,hd=>by
  obtain⟨d,rfl⟩:∃n,d=n+1:=⟨d-1,by omega⟩;simp only[DG]at hp;obtain⟨hi,Pe,hp⟩:=hp;simp only[HE]at hg;obtain⟨a,len,cap,rfl⟩:∃a len cap,h= .slice a len cap:=by
   have:=ho;simp only[Ow]at this;grind
  split at hg
  case h_2=>cases hg
  rename_i q' x' fg;rw[fg]at hp;obtain⟨b,o,arr,ty,fr,cs,G,R,rfl,hb,hu,hbd,c1,c2,c3,oP,hback⟩:=so ho hi;obtain⟨v,A1,A2,k1,k2,k3,k4⟩:=eQ c3 fg;obtain⟨h',F1,F2,m1,m2,m3,m4⟩:=oO k2 hp hg (by simp_all);have APx:d+1-(s::p).length=d-p.length:=by simp
  refine⟨h',F1,F2++A2++(b::R),?_,by simp_all,?_,?_⟩
  ·simp only[JB]
   rw[Pe,c2 _ _ k1];omega
  ·grind
  ·intro w' S' uC nG Cz hS rG hF2 wW Tk
   rw[APx]at wW;simp only[pA,fg]at Tk;simp only[AMi,AMU]at Tk;obtain⟨x2,hx2,Zx,hrow,rfl⟩:=Tk;obtain⟨B1,p1,p2⟩:=m4 w' S' uC nG x2 hS rG (fun c hc=>hF2 c (by simp[hc])) wW hx2;obtain⟨B2,p3,p4⟩:=k4 w' S' v x2 B1 Zx hS rG (fun c hc=>hF2 c (by simp[hc])) p2 hrow;have AGH:cs.set s.j v=cs:=by
    apply ATl;grind
   rw[AGH]at p4;have hbb:=hF2 b (by simp);obtain⟨F',p5,p6⟩:=hback w' S' arr cs Zx B2 hS rG (fun c hc=>hF2 c (by simp[hc])) (hbb.trans hb) rfl (fun _ _=>rfl) c1 (c2.of_block hbb) p4;grind
end Go.Fw
end
section
namespace Go.Fw
def OR(E:Env)(w:World)(vw:List Bx):Option XV→Option Value→Prop
 |none,none=>True
 |some x,some v=>XR E w vw x v
 |_,_=>False
section
variable{Y:Type} {P:Program} {T:J0} (hT:Ei P T) {E:Env} {w:World} {vw:List Bx}
theorem run_sliceBound{κ:IntKind}{i:Int}{y:Nat}{code:BoundsCode}(h0:0≤i)(h1:i≤(y:Int)):(Instr.sliceBound (.int κ i) y code).run P w= .ok i.toNat w:=by
 simp[Instr.sliceBound,asIntOf,h0,h1]
theorem Tg{len cap:Nat}(hc:len≤cap){lo hi:Option XV}{k:Nat→Nat→Option Y}{y:Y}(e:Ox len lo hi k=some y){lv hv:Option Value}
  (hl:OR E w vw lo lv) (hh:OR E w vw hi hv) (b:Bool):∃l h,k l h=some y∧l≤h∧h≤len∧(Instr.sliceBounds b len cap lv hv none).run P w= .ok (l,h,cap) w:=by
 unfold Ox at e;dsimp only at e;split at e
 case h_2=>cases e
 rename_i l h el eh;split at e
 case isFalse=>cases e
 rename_i hb;obtain⟨b1,b2,b3⟩:=hb;refine⟨l.toNat,h.toNat,e,by omega,by omega,?_⟩;cases hi with
 |none=>cases hv with
  |some _=>exact hh.elim
  |none=>
   simp only[AMO]at eh;subst eh;cases lo with
   |none=>cases lv with
    |some _=>exact hl.elim
    |none=>
     simp only[AMO]at el;subst el;rfl
   |some x=>cases lv with
    |none=>exact hl.elim
    |some v=>
     obtain⟨κ,rfl⟩:=Ix (E:=E) (w:=w) (vw:=vw) el hl;simp[Instr.sliceBounds,run_sliceBound (P:=P) (w:=w) (κ:=κ) (i:=l) (y:=len) b1 (by omega)]
 |some x=>cases hv with
  |none=>exact hh.elim
  |some v=>
   obtain⟨κ,rfl⟩:=Ix (E:=E) (w:=w) (vw:=vw) eh hh;have e1:=fun code=>run_sliceBound (P:=P) (w:=w) (κ:=κ) (i:=h) (y:=cap) (code:=code) (by omega) (by omega)
   cases lo with
   |none=>cases lv with
    |some _=>exact hl.elim
    |none=>
     simp only[AMO]at el;subst el;simp[Instr.sliceBounds,e1]
   |some x=>cases lv with
    |none=>exact hl.elim
    |some v=>
     obtain⟨κ',rfl⟩:=Ix (E:=E) (w:=w) (vw:=vw) el hl;have e2:=fun code=>run_sliceBound (P:=P) (w:=w) (κ:=κ') (i:=l) (y:=h.toNat) (code:=code) b1 (by omega)
     simp[Instr.sliceBounds,e1,e2]
theorem qy(s:ABY)(l h:Nat):(⟨s.toArray⟩:ByteArray).extract l h=⟨((s.drop l).take (h-l)).toArray⟩:=by
 apply ByteArray.ext;simp[List.extract_eq_take_drop]
include hT
theorem jS{σ:St}{Fs:List ABH}(hB:Ns E w σ.bx σ.bx Fs)(st:∀c,E.S c→E.T c){t:Nat}{x:XV}{lo hi:Option XV}{k:K Y}{y:Y}(e:kg T t σ x lo hi k=some y)
  {v:Value} {lv hv:Option Value} (hx:XR E w σ.bx x v) (hl:OR E w σ.bx lo lv) (hh:OR E w σ.bx hi hv):
  ∃z val,k z σ=some y∧(Instr.sliceAt t v lv hv none).run P w= .ok val w∧XR E w σ.bx z val:=by
 unfold kg at e;split at e
 ·rename_i s
  split at e
  case isFalse=>cases e
  rename_i qM;have hu:=Xk hT qM;have Yj:=Xx (E:=E) (w:=w) (vw:=σ.bx) hx;subst Yj;obtain⟨l,h,ek,h1,h2,hr⟩:=Tg (P:=P) (cap:=s.length) (AP3 _) e hl hh false;refine⟨_,.string ⟨((s.drop l).take (h-l)).toArray⟩,ek,?_,VR.str (E:=E) (vw:=σ.bx) _⟩;have hs:(⟨s.toArray⟩:ByteArray).size=s.length:=by rfl
  simp[Instr.sliceAt,BW hu,Instr.slice,hs,hr,qy]
 ·rename_i s r rows
  split at e
  case isFalse=>cases e
  rename_i Us;obtain⟨el,ti,hu,VC,hs,_⟩:=Kp hT Us;have Pe:=Ei.sizeOf hT VC w
  change VR E w σ.bx (.sl s r rows) v at hx
  have hx':=hx;simp only[VR,Rd]at hx';obtain⟨a,cap,Yj,hle,_⟩:=hx';simp only[ARF,ARx]at Yj;subst Yj;obtain⟨l,h,ek,h1,h2,hr⟩:=Tg (P:=P) hle e hl hh true;refine⟨_,VP r.n l (h-l) a cap,ek,?_,?_⟩
  ·simp[Instr.sliceAt,BW hu,Instr.slice,hr,Pe,hs,VP]
  grind[XR,VR,xk]
 ·rename_i b p
  split at e
  case h_2=>cases e
  rename_i q hq;split at e
  case isFalse=>cases e
  rename_i Us;obtain⟨el,ti,hu,VC,hs,_⟩:=Kp hT Us;have Pe:=Ei.sizeOf hT VC w
  change VR E w σ.bx (.ref b p) v at hx
  obtain⟨a,cap,rfl,hle,_⟩:=yD hB st hx hq;obtain⟨l,h,ek,h1,h2,hr⟩:=Tg (P:=P) hle e hl hh true;refine⟨_,VP q.1.n l (h-l) a cap,ek,?_,?_⟩
  ·simp[Instr.sliceAt,BW hu,Instr.slice,hr,Pe,hs,VP]
  ·simp only[Ng]at hq
   obtain⟨_,hx⟩:=hx;refine⟨by rfl,?_⟩;grind
 simp_all
omit hT in
theorem bF{f:Nat→Option AV}:∀{n j:Nat} {l:List AV},dw f j n=some l→l.length=n∧ ∀(i:Nat) x,l[i]? =some x→f (j+i)=some x
 |0,j,l,e=>by simp only[dw,AMO]at e;subst e;simp
 |n+1,j,l,e=>by
  simp only[dw,AMi,AMU]at e;obtain⟨x,hx,l',hl,rfl⟩:=e;obtain⟨h1,h2⟩:=bF hl;refine⟨by simp[h1],fun i z hz=> ?_⟩;cases i with
  |zero=>simp at hz;subst hz;exact hx
  |succ i=>
   have:=h2 i z (by simpa using hz)
   rwa [show j+1+i=j+(i+1)by omega]at this
omit hT in
theorem Wq{B:Nat→Prop}{t:Ty}{x:t.D}{v:Value}(h:Rd w B t [v] x)(hs:t.scalar=true):VR E w vw (.v t x) v:=by
 refine⟨hs,?_⟩;cases t<;>first
  |(simpa only[Rd]using h)
  |(simp[Ty.scalar]at hs)
omit hT in
theorem AA6{s:Bool}{t:Ty}{x:t.D}{v:Value}(h:Rd w (if s then E.S else E.T) t [v] x):VR E w vw (xD s ⟨t,x⟩) v:=by
 cases t with
 |sl r=>simp only[xD,VR];exact h
 |int k=>exact Wq h rfl
 |bool=>exact Wq h rfl
 |str=>exact Wq h rfl
 |unit=>trivial
 |cons c r=>trivial
omit hT in
theorem lW{s:Wo}:∀{p:List Wo} {r:Ty} {rows:List r.D} {q:Ty} {ys:List q.D} {t:Ty} {x:List t.D},DG r rows p→HE r rows p=some ⟨q,ys⟩→s.i<ys.length→s.sz=q.n→
  BN q s.j (rowAt q ys s.i)=some ⟨.sl t,x⟩→DG r rows (p++[s])∧HE r rows (p++[s])=some ⟨t,x⟩
 |[],r,rows,q,ys,t,x,_,hg,hi,hs,hc=>by
  simp only[HE,AMO,APl]at hg;obtain⟨rfl,e⟩:=hg;obtain rfl:=ARM e;refine⟨?_,?_⟩
  ·simp only[AQU,DG,hc]
   exact⟨hi,hs,trivial⟩
  ·simp only[AQU,HE,hc]
 |s'::p,r,rows,q,ys,t,x,hp,hg,hi,hs,hc=>by
  simp only[DG]at hp;obtain⟨h1,h2,hp⟩:=hp;simp only[HE]at hg;split at hg
  ·rename_i q' x' fg
   rw[fg]at hp;obtain⟨a,b⟩:=lW hp hg hi hs hc;refine⟨?_,?_⟩
   ·simp only[AR6,DG,fg]
    exact⟨h1,h2,a⟩
   ·simp only[AR6,HE,fg]
    exact b
  ·cases hg
omit hT in
theorem nV{s:Wo}:∀{p:List Wo} {h:Value} {b o len cap:Nat} {v:Value},JB w h p=some (.slice (some ⟨b,o,none⟩) len cap)→w.cell? ⟨b,o+s.i*s.sz+s.j,none⟩=some v→
  JB w h (p++[s])=some v
 |[],h,b,o,len,cap,v,e,hc=>by
  rw[DB]at e;cases e;simp[JB,hc,DB]
 |s'::p,h,b,o,len,cap,v,e,hc=>by
  cases h with
  |slice a l c=>
   cases a with
   |none=>simp[JB]at e
   |some a=>
    simp only[JB]at e;split at e
    ·rename_i h' hh
     simp only[AR6,JB,hh];exact nV e hc
    ·cases e
  |_=>simp[JB]at e
omit hT in
theorem MC{bx:List Bx}{Fs:List ABH}(hB:Ns E w bx bx Fs)(st:∀c,E.S c→E.T c){x z:AV}{i:Nat}(e:Ja bx x i=some z){v:Value}(hx:VR E w bx x v):
  ∃b o u,v= .pointer (some ⟨b,o,none⟩)∧w.cell? ⟨b,o+i,none⟩=some u∧VR E w bx z u:=by
 cases x with
 |Im b j=>
  simp only[Ja]at e;split at e
  ·rename_i cs hb
   obtain⟨F,⟨_,arr,ty,fr,ha,hu,hv⟩,_⟩:=hB.get hb;obtain⟨u,h1,h2⟩:=CX.get hv e;refine⟨_,_,u,hx.2,?_,h2⟩;simp only[World.cell?,ha,AR0,AMZ,AQb];simpa using h1
  ·cases e
 |Jk b p r sz j=>
  simp only[Ja]at e;split at e
  ·rename_i d q rows hb
   split at e
   case isFalse=>cases e
   rename_i hd;simp only[AMi]at e;obtain⟨⟨q',uC⟩,hg,e⟩:=e;split at e
   case isFalse=>cases e
   rename_i Pe;simp only[AMU]at e;obtain⟨⟨t,y⟩,hc,rfl⟩:=e;simp only[VR,hb]at hx;obtain⟨_,hp,q1,ys,bb,o,len,cap,g1,g2,g3,rfl⟩:=hx;rw[hg]at g1;simp only[AMO,APl]at g1;obtain⟨rfl,g1⟩:=g1;obtain rfl:=ARM g1;dsimp only at Pe hc;obtain⟨F,⟨hd1,ho⟩,hF⟩:=hB.get hb;have X5:=dh (FM.refl bx) hB st hb hp hg g3;have Ac3:=X5;simp only[Rd]at X5;obtain⟨a',cap',ee,hle,X5⟩:=X5;simp only[ARF,Value.slice.injEq,ARx]at ee;obtain⟨rfl,rfl,rfl⟩:=ee;rcases X5 with X5|⟨b1,o1,e7,_,X5⟩
   ·omega
   ·cases e7
    obtain⟨cs,c1,c2,c3⟩:=X5 r _ (RO g2);obtain⟨u,hu,hur⟩:=eL c3 hc;have Zu:=c2 _ _ hu;rw[←Pe]at Zu;refine⟨_,_,u,rfl,by rw[ASG];exact Zu,?_⟩;cases t with
    |sl t' =>
     simp only[zY];split
     ·rename_i hdd
      obtain⟨h',F1,F2,m1,m2,_,_⟩:=oO ho hp hg hd;rw[g3]at m1;cases m1;rw[show d-p.length=0+1 by omega]at m2;obtain⟨b2,o2,arr,ty,fr,cs2,G,R,e2,_,_,_,_,k2,k3,_,_⟩:=so m2 g2;cases e2;obtain⟨v2,A1,A2,z1,z2,_,_⟩:=eQ k3 hc;have AC9:=k2 _ _ z1;rw[←Pe,Zu]at AC9;cases AC9;simp only[Ow]at z2;simp only[VR];exact z2.1
     ·simp only[VR,hb]
      have:=lW (s:=⟨r,sz,j+i⟩) hp hg g2 Pe hc;simp only[Rd]at hur;obtain⟨a2,cap2,e2,_⟩:=hur;simp only[ARF,ARx]at e2;refine⟨by rw[e2];rfl,this.1,⟨_,this.2⟩,nV g3 Zu⟩
    |int k=>exact Wq hur rfl
    |bool=>exact Wq hur rfl
    |str=>exact Wq hur rfl
    |unit=>trivial
    |cons c r=>trivial
  ·cases e
 |Pg s r y j=>
  simp only[Ja,AMU]at e;obtain⟨⟨t,y'⟩,hc,rfl⟩:=e;obtain⟨bb,o,cs,rfl,h2,h3,h4,h5⟩:=hx;obtain⟨u,hu,hur⟩:=eL h5 hc;refine⟨_,_,u,rfl,by rw[ASG];exact h4 _ _ hu,AA6 hur⟩
 |_=>simp[Ja]at e
omit hT in
theorem dY{bx:List Bx}{Fs:List ABH}(hB:Ns E w bx bx Fs)(st:∀c,E.S c→E.T c){x:AV}{v:Value}(hx:VR E w bx x v){b o:Nat}(hv:v= .pointer (some ⟨b,o,none⟩)):
  ∀{l:List AV} {j:Nat},(∀(i:Nat) z,l[i]? =some z→Ja bx x (j+i)=some z)→ ∃cs:List Value,cs.length=l.length∧Bb w b (o+j) cs∧iy E w bx l cs
 |[],_,_=>⟨[],rfl,fun _ _ h=>by simp at h,trivial⟩
 |z::l,j,h=>by
  obtain⟨b',o',u,e1,e2,e3⟩:=MC hB st (h 0 z rfl) hx;subst hv;simp only[Value.pointer.injEq,AMO,Addr.mk.injEq,ARx]at e1;obtain⟨rfl,rfl⟩:=e1;obtain⟨cs,c1,c2,c3⟩:=dY hB st hx rfl (l:=l) (j:=j+1) (fun i y hy=>by
   have:=h (i+1) y (by simpa using hy)
   rwa [show j+1+i=j+(i+1)by omega])
  refine⟨u::cs,by simp[c1],fun i y hy=> ?_,e3,c3⟩;cases i with
  |zero=>simp at hy;subst hy;exact e2
  |succ i=>
   have:=c2 i y (by simpa using hy)
   rwa [show o+(j+1)+i=o+j+(i+1)by omega]at this
theorem uK{σ:St}{Fs:List ABH}(hB:Ns E w σ.bx σ.bx Fs)(st:∀c,E.S c→E.T c){t:Nat}{x z:XV}(e:lI T t σ x=some z){v:Value}(hx:XR E w σ.bx x v):
  ∃u,(Instr.loadAt t v).run P w= .ok u w∧XR E w σ.bx z u:=by
 unfold lI at e;split at e
 case h_2=>cases e
 rename_i x ti VC;split at e
 case isTrue=>cases e
 rename_i Pe;have iQ:=Ei.isAgg hT VC w;split at e
 ·rename_i ha
  rw[ha]at iQ;simp only[AMU]at e;obtain⟨l,hl,rfl⟩:=e;obtain⟨h1,h2⟩:=bF hl;have h0:0<l.length:=by omega
  obtain⟨b,o,u,hv,_,_⟩:=MC hB st (h2 0 _ (AMJ h0)) hx;obtain⟨cs,c1,c2,c3⟩:=dY hB st hx hv (l:=l) (j:=0) (fun i y hy=>by simp_all);subst hv;have iO:=(hT t ti VC).und;cases hd:ti.desc with
  |st fs=>
   rw[hd]at iO;obtain⟨fields,hu,_⟩:=iO;refine⟨.agg cs.toArray,run_loadAt_mid w b o t cs _ (by grind[Bb,World.rangeAt]) hu rfl ?_,cs.toArray,rfl,by omega⟩;grind[Ei.size]
  |_=>grind[TD.agg]
 ·rename_i ha
  simp only[AQv]at ha;rw[ha]at iQ;simp only[AMU]at e;obtain⟨y,hy,rfl⟩:=e;obtain⟨b,o,u,hv,hc,hr⟩:=MC hB st hy hx;subst hv;refine⟨u,?_,hr⟩;simp only[ASI]at hc;simp[Instr.loadAt,Instr.sureAddr,loadVar,iQ,hc]
end
end Go.Fw
end
section
namespace Go.Fw
theorem pZ{w:World}{S:Nat→Prop}{d:Nat}{q:Ty}:Ow w S d (.sl q) [.slice none 0 0] [] []:=by
 cases d with
 |zero=>simp only[Ow,Rd];simp_all
 |succ d=>simp only[Ow];simp_all
theorem ADn{w:World}{S:Nat→Prop}{d:Nat}{r:Ty}{a:Option Addr}{len cap:Nat}{ys:List r.D}{F:ABH}(h:Ow w S (d+1) (.sl r) [.slice a len cap] ys F){off n:Nat}(hn:off+n≤ys.length):
  ∃F1 F2,F.Perm (F1++F2)∧Ow w S (d+1) (.sl r) [VP r.n off n a cap] ((ys.drop off).take n) F1:=by
 simp only[Ow]at h⊢;obtain⟨a',cap',e,hc,h⟩:=h;simp only[ARF,Value.slice.injEq,ARx]at e;obtain⟨rfl,rfl,rfl⟩:=e;have hl:((ys.drop off).take n).length=n:=by grind
 by_cases h0:cap=off
 ·subst h0
  refine⟨[],F,by simp,a,0,by simp[VP,hl],by omega,.inl ⟨rfl,rfl⟩⟩
 ·rcases h with⟨h,rfl⟩|⟨b,o,arr,ty,fr,Fs,rfl,hb,Pe,hu,rfl,hFl,hr⟩
  ·omega
  ·have p:Fs.flatten.Perm (((Fs.drop off).take n).flatten++((Fs.take off).flatten++(Fs.drop (off+n)).flatten)):=by
    grind[List.drop_drop,List.take_append_drop,List.flatten_append,List.append_assoc,List.Perm.append_right,List.perm_append_comm]
   refine⟨b::((Fs.drop off).take n).flatten,(Fs.take off).flatten++(Fs.drop (off+n)).flatten,List.Perm.cons b p,some ⟨b,o+off*r.n,none⟩,cap-off,?_,by omega,.inr ⟨b,o+off*r.n,arr,ty,fr,_,rfl,hb,?_,hu,rfl,?_,?_⟩⟩
   ·grind[VP,Addr.add_eq]
   ·have:off*r.n+(cap-off)*r.n=cap*r.n:=by rw[←ARz];grind
    omega
   all_goals grind
theorem Le.keep{E E':Env}(h:Le E E'){w:World}{vw:List Bx}(st:∀c,E.S c→E.T c):TF E w vw E' w vw:=
 ⟨AP3 _,fun b _=>by rw[h.ID],h.T,h.S,st,fun _ _=>rfl,fun b d r rows _ e=>⟨d,rows,e,fun p hp q ys hg=>⟨hp,⟨ys,hg,rfl⟩,fun h' hh=>by rw[h.IE];omega⟩⟩⟩
theorem C7.share{E:Env}{w:World}{vw bx:List Bx}{F W G:ABH}(h:C7 E w vw bx (F++W++G)):
  let E':Env:={ E with S:=fun c=>E.S c∨c∈W,T:=fun c=>E.T c∨c∈W }
  Le E E'∧C7 E' w vw bx (F++G):=by
 intro E';have st:=h.st;have hle:Le E E':=⟨rfl,rfl,fun c hc=> .inl hc,fun c hc=> .inl hc,fun c hc=>hc.elim .inl fun h' => .inr (.inr h'),fun c hc=>hc.elim .inl fun h' => .inr (h.AEc c (by simp[h']))⟩;refine⟨hle,?_⟩;obtain⟨Fs,⟨h1,h2⟩,h3⟩:=h;refine⟨Fs,⟨h1,fun k B F' hk hF=> ?_⟩,?_⟩
 ·have:=h2 k B F' hk hF
  cases B with
  |mem cs=>
   obtain⟨rfl,arr,ty,fr,a1,a2,a3⟩:=this;exact⟨rfl,arr,ty,fr,a1,a2,a3.imp fun _ _ hv=>GU (hle.keep st) hv⟩
  |sl d r rows=>exact⟨this.1,EU hle.S (fun _ _=>rfl) (fun _ _=>rfl) this.2⟩
  |dead=>exact this
 ·have h4:Sep E w (W++(Fs.flatten++(F++G))):=h3.perm (by
   grind)
  refine⟨(AP2.1 h4.nodup).2.1,fun c hc ht=> ?_,fun c hc=>h4.lt c (by simp_all),fun c hc=>hc.imp (st c) id,fun c hc=>hc.elim (h4.cf c) fun h' =>h4.lt c (by simp[h'])⟩;rcases ht with ht|ht
  ·exact h4.free c (APr.2 (.inr hc)) ht
  ·exact(AP2.1 h4.nodup).2.2 c ht c hc rfl
structure HL (E:Env) (w:World) (vw bx:List Bx) (G:ABH) (E':Env) (Qu:List Bx) (F:ABH):Prop where
 le:Le E E'
 len:Qu.length=bx.length
 within:∀(b:Nat) (B:Bx),Qu[b]? =some B→B= .dead∨bx[b]? =some B
 boxes:C7 E' w vw Qu (F++G)
theorem HL.refl{E:Env}{w:World}{vw bx:List Bx}{G:ABH}(h:C7 E w vw bx G):HL E w vw bx G E bx []:=
 ⟨Le.refl E,rfl,fun _ _ h=> .inr h,h⟩
theorem FM.pN{E E':Env}{w:World}{vw bx Qu:List Bx}{G F:ABH}(h:FM bx vw)(k:HL E w vw bx G E' Qu F):FM Qu vw:=fun b B e=>
 (k.within b B e).elim .inl (h b B)
theorem an{E:Env}{w:World}{vw bx:List Bx}{G:ABH}(h:C7 E w vw bx G)(hw:FM bx vw){d:Nat}(hd:1≤d){t:Ty}{x:AV}{v:Value}(hv:VR E w vw x v){y:t.D}{Qu:List Bx}{d':Nat}
  (e:dV d t x bx=some (y,Qu,d')):1≤d'∧d'≤d∧ ∃E' F,HL E w vw bx G E' Qu F∧Ow w E'.S (d'-1) t [v] y F:=by
 unfold dV at e;split at e
 ·rename_i u z
  simp only[AMU,ARK]at e;obtain⟨z',e1,rfl,rfl,rfl⟩:=e;obtain⟨e2,e3⟩:=IW e1;subst e2;subst e3;refine⟨hd,AP3 _,E,[],HL.refl h,?_⟩;obtain⟨hs,hr⟩:=hv;cases u<;>simp_all[Ty.scalar,Ow,Rd]
 ·split at e
  ·simp only[AMO,ARK]at e
   obtain⟨rfl,rfl,rfl⟩:=e;simp only[VR]at hv;subst hv;exact⟨hd,AP3 _,E,[],HL.refl h,pZ⟩
  simp_all
 ·rename_i r z
  split at e
  ·rename_i q
   simp only[AMU,ARK]at e;obtain⟨z',e1,rfl,rfl,rfl⟩:=e;obtain⟨e2,e3⟩:=IW e1;subst e2;subst e3;refine⟨AP3 _,hd,E,[],HL.refl h,?_⟩;simp only[VR]at hv;simp only[ATw,Ow];simp_all
  simp_all
 ·rename_i b
  split at e
  case h_2=>cases e
  rename_i q;split at e
  case h_2=>cases e
  rename_i db r z hb;simp only[AMU,ARK]at e;obtain⟨z',e1,rfl,rfl,rfl⟩:=e;obtain⟨e2,e3⟩:=IW e1;subst e2;subst e3;obtain⟨F0,⟨hd1,ho⟩,hB⟩:=h.take hb;have hvv:v=E.IE b:=by
   grind[VR,YG,DB]
  subst hvv;obtain⟨F1,W,hp,wW⟩:=KU (d:=min d (db+1)-1) (by omega) ho;have T3:=hB.perm (ATE G hp);obtain⟨hle,X6⟩:=T3.share;refine⟨by omega,Nat.min_le_left _ _,_,F1,⟨hle,by simp,fun k B hk=> ?_,X6⟩,wW⟩;grind
 ·rename_i b off n
  split at e
  case h_2=>cases e
  rename_i q;split at e
  case h_2=>cases e
  rename_i db r z hb;simp only[AMU,ARK]at e;obtain⟨z',e1,rfl,rfl,rfl⟩:=e;obtain⟨e2,e3⟩:=IW e1;subst e2;subst e3;obtain⟨F0,⟨hd1,ho⟩,hB⟩:=h.take hb;simp only[VR,YG hw hb,DB]at hv;obtain⟨_,_,q',ys,a,len,cap,hg,hn,hh,rfl⟩:=hv;simp only[HE,AMO,APl]at hg;obtain⟨rfl,hg⟩:=hg;obtain rfl:=ARM hg;simp only[AMO]at hh;rw[hh]at ho;obtain⟨db,rfl⟩:∃m,db=m+1:=⟨db-1,by omega⟩;obtain⟨A1,A2,hp0,ho0⟩:=ADn ho hn;obtain⟨F1,W,hp,wW⟩:=KU (d:=min d (db+1+1)-1) (by omega) ho0;have hB1:C7 E w vw (bx.set b .dead) (A1++G):=by
   refine C7.drop (G':=A2) (hB.perm ?_);grind
  have T3:=hB1.perm (ATE G hp);obtain⟨hle,X6⟩:=T3.share;refine⟨by omega,Nat.min_le_left _ _,_,F1,⟨hle,by simp,fun k B hk=> ?_,X6⟩,wW⟩;grind
 simp_all
theorem Zd{w:World}{vw:List Bx}:∀{r:Ty} {E:Env} {bx:List Bx} {G:ABH} {d:Nat} {l:List AV} {vs:List Value} {y:r.D} {Qu:List Bx} {d':Nat},C7 E w vw bx G→FM bx vw→1≤d→
  iy E w vw l vs→cellsIn d r l bx=some (y,Qu,d')→1≤d'∧d'≤d∧ ∃E' F,HL E w vw bx G E' Qu F∧Ow w E'.S (d'-1) r vs y F
 | .unit,E,bx,G,d,[],[],y,Qu,d',h,hw,hd,_,e=>by
  simp only[cellsIn,AMO,ARK]at e;obtain⟨_,rfl,rfl⟩:=e;exact⟨hd,AP3 _,E,[],HL.refl h,by simp only[Ow];simp_all⟩
 | .cons c r,E,bx,G,d,x::l,v::vs,y,Qu,d',h,hw,hd,hv,e=>by
  simp only[cellsIn,AMi,AMU,ARK]at e;obtain⟨⟨y1,jX,d1⟩,e1,⟨y2,aU,d2⟩,e2,rfl,rfl,rfl⟩:=e;dsimp only at e2⊢;obtain⟨a1,a2,E1,F1,k1,o1⟩:=an h hw hd hv.1 e1;have vg:=k1.le.keep (w:=w) (vw:=vw) h.st;obtain⟨b1,b2,E2,F2,k2,o2⟩:=Zd (G:=F1++G) k1.boxes (hw.pN k1) a1 (hv.2.imp fun _ _ h=>GU vg h) e2;obtain⟨A,W,hp,o1'⟩:=KU (d:=d'-1) (by omega) o1;have hB:=k2.boxes.perm (G':=(F2++A)++W++G) (by
   grind)
  obtain⟨hle,X6⟩:=hB.share;refine⟨b1,ARV b2 a2,_,A++F2,⟨(k1.le.trans k2.le).trans hle,k2.len.trans k1.len,fun b B hb=>(k2.within b B hb).elim .inl (k1.within b B),X6.perm (ATE _ List.perm_append_comm)⟩,?_⟩;simp only[Ow];refine⟨v,vs,A,F2,rfl,rfl,?_,?_⟩
  ·refine EU (S:=fun b=>E1.S b∨b∈W) ?_ (fun _ _=>rfl) (fun _ _=>rfl) o1'
   intro c hc;exact hc.elim (fun h=> .inl (k2.le.S c h)) .inr
  ·refine EU (S:=E2.S) ?_ (fun _ _=>rfl) (fun _ _=>rfl) o2
   simp_all
 | .unit,_,_,_,_,_::_,_,_,_,_,_,_,_,_,e=>by simp[cellsIn]at e
 | .unit,_,_,_,_,[],_::_,_,_,_,_,_,_,hv,_=>hv.elim
 | .cons _ _,_,_,_,_,[],_,_,_,_,_,_,_,_,e=>by simp[cellsIn]at e
 | .cons _ _,_,_,_,_,_::_,[],_,_,_,_,_,_,hv,_=>hv.elim
 | .int _,_,_,_,_,_,_,_,_,_,_,_,_,_,e=>by simp[cellsIn]at e
 | .bool,_,_,_,_,_,_,_,_,_,_,_,_,_,e=>by simp[cellsIn]at e
 | .str,_,_,_,_,_,_,_,_,_,_,_,_,_,e=>by simp[cellsIn]at e
 | .sl _,_,_,_,_,_,_,_,_,_,_,_,_,_,e=>by simp[cellsIn]at e
theorem s8{E:Env}{w:World}{vw:List Bx}{x:AV}{v:Value}(h:VR E w vw x v)(hk:x.known=true):v.oneCell' =true∧v.cells= #[v]:=by
 have aux:∀{v:Value},isSlice v=true→v.oneCell' =true∧v.cells= #[v]:=by intro v h;cases v<;>simp_all[isSlice,Value.oneCell',Value.cells]
 have AZa:∀{v:Value},bz v=true→v.oneCell' =true∧v.cells= #[v]:=by intro v h;cases v<;>simp_all[bz,Value.oneCell',Value.cells]
 cases x with
 |v t y=>
  obtain⟨hs,hr⟩:=h;cases t<;>simp[Ty.scalar]at hs<;>simp only[Rd,ARF,ARx]at hr<;>subst hr<;>exact⟨rfl,rfl⟩
 |sl s r y=>
  simp only[VR,Rd]at h;obtain⟨a,cap,h,_⟩:=h;simp only[ARF,ARx]at h;subst h;exact⟨rfl,rfl⟩
 |nil=>simp only[VR]at h;subst h;exact⟨rfl,rfl⟩
 |ref b p=>exact aux h.1
 |win b p off n=>exact aux h.1
 |Im b j=>rw[h.2];exact⟨rfl,rfl⟩
 |Jk b p i sz j=>exact AZa h.1
 |Pg s r y j=>obtain⟨bb,o,cs,rfl,_⟩:=h;exact⟨rfl,rfl⟩
 |fn f Kk=>rw[h.2];exact⟨rfl,rfl⟩
 |qP f rows=>obtain⟨ps,rfl,_⟩:=h;exact⟨rfl,rfl⟩
 |xj=>simp only[VR]at h;subst h;exact⟨rfl,rfl⟩
 |undef=>simp[AV.known]at hk
theorem y9{E:Env}{w:World}{vw:List Bx}:∀{l:List AV} {vs:List Value},iy E w vw l vs→l.all AV.known=true→ ∀v∈vs,v.oneCell' =true
 |[],[],_,_=>by simp
 |x::l,v::vs,h,hk=>by
  simp only[AR_,AMY]at hk;intro u hu;rcases AQw.1 hu with rfl|hu
  ·exact(s8 h.1 hk.1).1
  ·exact y9 h.2 hk.2 u hu
theorem pW{E:Env}{w:World}{vw:List Bx}{x:XV}{v:Value}(h:XR E w vw x v)(hk:x.cells.all AV.known=true)(hn:x.cells≠[]):iy E w vw x.cells v.cells.toList∧ ∀u∈v.cells.toList,u.oneCell' =true:=by
 cases x with
 |c x=>
  have h':VR E w vw x v:=h;obtain⟨h1,h2⟩:=s8 h' (by grind[XV.cells]);rw[h2];exact⟨⟨h',trivial⟩,by simp_all⟩
 |agg l=>
  obtain⟨vs,rfl,V6⟩:=h;exact⟨V6,y9 V6 hk⟩
 |Nr l=>simp[XV.cells]at hn
theorem vQ{w:World}{vw:List Bx}{r:Ty}{E:Env}{bx:List Bx}{G:ABH}{d:Nat}{x:XV}{v:Value}{y:r.D}{Qu:List Bx}{d':Nat}(h:C7 E w vw bx G)(hw:FM bx vw)(hd:1≤d)
  (hv:XR E w vw x v) (e:AEG d r x bx=some (y,Qu,d')):1≤d'∧d'≤d∧ ∃E' F,HL E w vw bx G E' Qu F∧Ow w E'.S (d'-1) r v.cells.toList y F:=by
 unfold AEG at e;split at e
 ·rename_i l
  obtain⟨vs,rfl,V6⟩:=hv;exact Zd h hw hd V6 e
 ·rename_i x
  have Yj:VR E w vw x v:=hv;have hk:x.known=true:=by grind[AV.known,dV]
  rw[(s8 Yj hk).2];exact an h hw hd Yj e
 simp_all
end Go.Fw
end
section
namespace Go.Fw
def Env.ar(E:Env)(n:Nat)(h:Value):Env:={ E with IE:=fun k=>if k=n then h else E.IE k }
def Env.eU(E:Env)(n b:Nat):Env:={ E with ID:=fun k=>if k=n then b else E.ID k }
theorem fb{E E1 E':Env}{w w':World}{vw jX Qu:List Bx}{F:ABH}(k:HL E w vw vw [] E1 jX F)(st:∀c,E.S c→E.T c)(hlen:vw.length≤Qu.length)
  (uB:∀b B,b<vw.length→Qu[b]? =some B→jX[b]? =some B) (ADD:∀b,b<vw.length→E'.ID b=E1.ID b) (mg:∀b,b<vw.length→E'.IE b=E1.IE b) (hT:E'.T=E1.T) (hS:E'.S=E1.S)
  (hw:∀c,c<w.heap.size→c∉F→w'.heap[c]? =w.heap[c]?):TF E w vw E' w' Qu:=by
 have hB:=k.boxes;obtain⟨Fs,⟨h1,h2⟩,h3⟩:=hB;simp only[AN8]at h3;have wS:∀c,E1.T c→w'.heap[c]? =w.heap[c]?:=fun c hc=>hw c (h3.cf c hc) fun hf=>h3.free c (by simp[hf]) hc
 refine⟨hlen,fun b hb=>by rw[ADD b hb,k.le.ID],fun c hc=>by rw[hT];exact k.le.T c hc,fun c hc=>by rw[hS];exact k.le.S c hc,st,fun c hc=>wS c (k.le.T c hc),fun b d r rows hb e=> ?_⟩;have e1:=uB b _ hb e;rcases k.within b _ e1 with e2|e2
 ·cases e2
 ·refine⟨d,rows,e2,fun p hp q ys hg=>⟨hp,⟨ys,hg,rfl⟩,fun h' hh=> ?_⟩⟩
  have hF:Fs[b]? =some (Fs[b]'(by grind)):=AMJ _;obtain⟨hd,ho⟩:=h2 b _ _ e1 hF;rw[mg b hb];rw[←k.le.IE]at hh;refine sK ho (fun c hc=>wS c (h3.st c hc)) (fun c hc=> ?_) hp hg hh;have UI:c∈Fs.flatten:=ARc.2 ⟨_,AQq hF,hc⟩;exact hw c (h3.lt c (by simp[UI])) fun hf=>(AP2.1 h3.nodup).2.2 c UI c hf rfl
structure Grown (w w':World):Prop where
 os:w'.os=w.os
 tape:w'.tape=w.tape
 output:w'.output=w.output
 size:w.heap.size≤w'.heap.size
theorem T0{E E1:Env}{σ:St}{a:Act}{w w':World}{jX:List Bx}{F F':ABH}(h:Rel E σ a w)(k:HL E w σ.bx σ.bx [] E1 jX F){v:Value}{d:Nat}{r:Ty}{rows:List r.D}(hd:1≤d)
  (ho:Ow w' E1.S d (.sl r) [v] rows F') (hF':∀c∈F',c∈F∨w.heap.size≤c) (nd:F'.Nodup) (FW:∀c∈F',c<w'.heap.size) (hw:∀c,c<w.heap.size→c∉F→w'.heap[c]? =w.heap[c]?) (g:Grown w w'):
  let E':=E1.ar jX.length v
  Rel E' { σ with bx:=jX++[.sl d r rows] } a w'∧Rg [] E σ.bx w E' (jX++[.sl d r rows]) w'∧XR E' w' (jX++[.sl d r rows]) (.c (.ref jX.length [])) v:=by
 intro E';have st:=h.bx.st;have hn:=k.len;have keep:TF E w σ.bx E' w' (jX++[.sl d r rows]):=fb k st (by simp[hn]) (fun b B hb e=>by
   grind) (fun b _=>rfl) (fun b hb=>by grind[Env.ar]) rfl rfl hw
 have vg:TF E1 w σ.bx E' w' (jX++[.sl d r rows]):=by
  have k':HL E1 w σ.bx σ.bx [] E1 jX F:=⟨Le.refl _,k.len,k.within,k.boxes⟩;exact fb k' k.boxes.st (by simp[hn]) (fun b B hb e=>by
   grind) (fun b _=>rfl) (fun b hb=>by grind[Env.ar]) rfl rfl hw
 obtain⟨Fs,⟨h1,h2⟩,h3⟩:=k.boxes;simp only[AN8]at h3;have wS:∀c,E1.T c→w'.heap[c]? =w.heap[c]?:=fun c hc=>hw c (h3.cf c hc) fun hf=>h3.free c (by simp[hf]) hc
 have hF0:∀c∈Fs.flatten,w'.heap[c]? =w.heap[c]?:=fun c hc=>hw c (h3.lt c (by simp[hc])) fun hf=>(AP2.1 h3.nodup).2.2 c hc c hf rfl
 refine⟨⟨h.N8,h.tm.imp fun _ _ hx=>PC keep hx,?_⟩,?_,?_⟩
 ·refine⟨Fs++[F'],⟨by simp[h1],fun n B G hB hG=> ?_⟩,?_⟩
  ·by_cases v7:n<jX.length
   ·rw[AQS v7]at hB
    rw[AQS (by omega)]at hG;have:=h2 n B G hB hG;have hGw:∀c∈G,w'.heap[c]? =w.heap[c]?:=fun c hc=>hF0 c (ARc.2 ⟨G,AQq hG,hc⟩)
    cases B with
    |mem cs=>
     obtain⟨rfl,arr,ty,fr,a1,a2,a3⟩:=this;exact⟨rfl,arr,ty,fr,(hGw (E1.ID n) (by simp)).trans a1,a2,a3.imp fun _ _ hv=>GU vg hv⟩
    |sl d0 r0 Ro=>
     refine⟨this.1,?_⟩;have e0:E'.IE n=E1.IE n:=by grind[Env.ar]
     rw[e0];exact EU (fun _ hc=>hc) (fun c hc=>wS c (h3.st c hc)) hGw this.2
    |dead=>exact this
   ·have hnn:=(AMX.1 hB).1
    simp at hnn;obtain rfl:n=jX.length:=by omega
    rw[AQm (by omega)]at hB hG;simp[h1]at hB hG;subst hB hG;refine⟨hd,?_⟩;grind[Env.ar]
  ·simp only[ASB,ASK,AT0,AN8]
   have nd0:=AP2.1 h3.nodup;refine⟨AP2.2 ⟨nd0.1,nd,fun x hx y hy e=> ?_⟩,fun c hc ht=> ?_,fun c hc=> ?_,h3.st,fun c hc=>ARl (h3.cf c hc) g.size⟩
   ·grind
   ·rcases APr.1 hc with hc|hc
    ·exact h3.free c (by simp[hc]) ht
    ·rcases hF' c hc with h|h
     ·exact h3.free c (by simp[h]) ht
     ·have:=h3.cf c ht;omega
   ·rcases APr.1 hc with hc|hc
    ·exact ARl (h3.lt c (by simp[hc])) g.size
    simp_all
 ·refine⟨⟨k.le.T,k.le.S,k.le.Tof,k.le.y_,fun c hc=>wS c (k.le.T c hc),g.os,g.tape,g.output,g.size⟩,by simp[hn],fun b hb=>⟨by show E1.ID b=_;rw[k.le.ID],?_⟩,fun b hb=> ?_,fun n B B' _ hB T3 xu=> ?_⟩
  ·have:E'.IE b=E1.IE b:=by grind[Env.ar]
   rw[this,k.le.IE]
  ·have hbl:=(AMX.1 hb).1
   rw[AQS (by omega)];obtain⟨B,hB⟩:∃B,jX[b]? =some B:=⟨_,AMJ (by omega)⟩;rcases k.within b B hB with e|e
   all_goals simp_all
  ·have v7:=(AMX.1 hB).1
   rw[AQS (by omega)]at T3;rcases k.within n B' T3 with e|e
   ·simp_all
   rw[hB]at e;cases e;refine⟨Vf.refl xu,fun c hc=> ?_⟩;have hF:Fs[n]? =some (Fs[n]'(by omega)):=AMJ _;have hR:=h2 n B _ T3 hF;have cV:wZ E1 w n B c:=by
    cases B with
    |mem cs=>simp only[wZ]at hc⊢;rw[k.le.ID];omega
    |sl d r rows=>simp only[wZ]at hc⊢;rw[k.le.IE];omega
    |dead=>exact hc
   rcases eO hR cV with hs|hs
   ·exact wS c (h3.st c hs)
   grind[List.mem_flatten,List.mem_of_getElem?]
 ·have e0:E'.IE jX.length=v:=by simp[E',Env.ar]
  refine⟨?_,?_⟩
  ·have:=Xr ho
   simp only[Rd]at this;obtain⟨_,_,e,_⟩:=this;simp only[ARF,ARx]at e;rw[e];rfl
  ·have:(jX++[Bx.sl d r rows])[jX.length]? =some (.sl d r rows):=by simp
   rw[this];exact⟨by simp[DG],⟨_,rfl⟩,by rw[e0,DB]⟩
theorem oI{E:Env}{σ:St}{a:Act}{w:World}(h:Rel E σ a w){cs:List AV}{arr:Array Value}(ty:TypeId)(hv:iy E w σ.bx cs arr.toList):
  let E':=E.eU σ.bx.length w.heap.size
  let w':=w.alloc (.cells arr ty)
  Rel E' (σ.new (.mem cs)) a w'∧Rg [] E σ.bx w E' (σ.new (.mem cs)).bx w'∧XR E' w' (σ.new (.mem cs)).bx (.c (.Im σ.bx.length 0)) (.pointer (some ⟨w.heap.size,0,none⟩)):=by
 intro E' w';have st:=h.bx.st;have hw:∀c,c<w.heap.size→c∉([]:ABH)→w'.heap[c]? =w.heap[c]?:=fun c hc _=>by
  show(w.heap.push (.cells arr ty))[c]? =_
  grind
 have hB0:=h.bx;have keep:TF E w σ.bx E' w' (σ.bx++[.mem cs]):=fb (HL.refl hB0) st (by simp) (fun b B hb e=>by
   grind) (fun b hb=>by grind[Env.eU]) (fun b _=>rfl) rfl rfl hw
 obtain⟨Fs,⟨h1,h2⟩,h3⟩:=h.bx;simp only[AN8]at h3;have new:w'.heap[w.heap.size]? =some (.cells arr ty):=by
  show(w.heap.push (.cells arr ty))[w.heap.size]? =_
  simp
 refine⟨⟨h.N8,h.tm.imp fun _ _ hx=>PC keep hx,?_⟩,?_,?_⟩
 ·refine⟨Fs++[[w.heap.size]],⟨by simp[St.new,h1],fun n B G hB hG=> ?_⟩,?_⟩
  ·simp only[St.new]at hB
   by_cases v7:n<σ.bx.length
   ·rw[AQS v7]at hB
    rw[AQS (by omega)]at hG;have:=h2 n B G hB hG;have hGw:∀c∈G,w'.heap[c]? =w.heap[c]?:=fun c hc=>hw c (h3.lt c (by simp;grind)) (by simp)
    have eb:E'.ID n=E.ID n:=by grind[Env.eU]
    cases B with
    |mem cs0=>
     obtain⟨rfl,arr0,ty0,fr,a1,a2,a3⟩:=this;refine⟨by rw[eb],arr0,ty0,fr,?_,a2,a3.imp fun _ _ hv=>GU keep hv⟩;simp_all
    |sl d0 r0 Ro=>exact⟨this.1,EU (fun _ hc=>hc) (fun c hc=>hw c (h3.cf c (st c hc)) (by simp)) hGw this.2⟩
    |dead=>exact this
   ·have hnn:=(AMX.1 hB).1
    simp at hnn;obtain rfl:n=σ.bx.length:=by omega
    rw[AQm (by omega)]at hB hG;simp[h1]at hB hG;subst hB hG;have eb:E'.ID σ.bx.length=w.heap.size:=by simp[E',Env.eU]
    refine⟨by rw[eb],arr,ty,(0,0),by simp_all,fun i _ h=>by omega,hv.imp fun _ _ hv=>GU keep hv⟩
  ·simp only[ASB,ASK,AT0,AN8]
   refine⟨AP2.2 ⟨h3.nodup,by simp,fun x hx y hy e=> ?_⟩,fun c hc ht=> ?_,fun c hc=> ?_,h3.st,fun c hc=> ?_⟩
   ·subst e
    simp at hy;have:=h3.lt x hx;omega
   ·rcases APr.1 hc with hc|hc
    ·exact h3.free c hc ht
    ·simp at hc;have:=h3.cf c ht;omega
   ·rcases APr.1 hc with hc|hc
    ·have:=h3.lt c hc;grind
    grind
   ·have:=h3.cf c hc;grind
 ·refine⟨⟨fun _ h=>h,fun _ h=>h,fun _ h=> .inl h,fun _ h=> .inl h,fun c hc=>hw c (h3.cf c hc) (by simp),rfl,rfl,rfl,by simp[w']⟩,by simp[St.new],fun b hb=>⟨?_,rfl⟩,fun b hb=> ?_,fun n B B' _ hB T3 xu=> ?_⟩
  ·grind[Env.eU]
  ·grind[List.getElem?_eq_some_iff,St.new,List.getElem?_append_left]
  ·have v7:=(AMX.1 hB).1
   simp only[St.new]at T3;rw[AQS v7,hB]at T3;cases T3;refine⟨Vf.refl xu,fun c hc=> ?_⟩;have hF:Fs[n]? =some (Fs[n]'(by omega)):=AMJ _;rcases eO (h2 n B _ hB hF) hc with hs|hs
   ·exact hw c (h3.cf c (st c hs)) (by simp)
   ·exact hw c (h3.lt c (ARc.2 ⟨_,AQq hF,hs⟩)) (by simp)
 ·refine⟨by simp[St.new],?_⟩
  simp[E',Env.eU]
end Go.Fw
end
section
namespace Go.Fw
theorem Gz:∀r:Ty,(Ek r).length=r.n
 | .cons c r=>by simp[Ek,Ty.n,Gz r]
 | .unit=>rfl
 | .int _=>rfl
 | .bool=>rfl
 | .str=>rfl
 | .sl _=>rfl
theorem Zs{E:Env}{w:World}{vw:List Bx}(t:Ty):VR E w vw (xL t) (zv t):=by
 cases t<;>first
  |exact VR.int _ _
  |exact VR.bool _
  |exact VR.str _
  |rfl
  |trivial
theorem YF{E:Env}{w:World}{vw:List Bx}:∀r:Ty,iy E w vw (bC r) (Ek r)
 | .cons c r=>⟨Zs c,YF r⟩
 | .unit=>trivial
 | .int k=>⟨Zs (.int k),trivial⟩
 | .bool=>⟨Zs .bool,trivial⟩
 | .str=>⟨Zs .str,trivial⟩
 | .sl r=>⟨Zs (.sl r),trivial⟩
theorem eN{w:World}{S:Nat→Prop}{d:Nat}:∀{r:Ty},r.sV=true→Ow w S d r (Ek r) r.z []
 | .cons c r,h=>by
  simp only[Ty.sV,AMY]at h;simp only[Ow,Ek];refine⟨_,_,[],[],rfl,rfl,?_,eN h.2⟩;cases c with
  |sl q=>exact pZ
  |int k=>simp[Ow,zv,Ty.z]
  |bool=>simp[Ow,zv,Ty.z]
  |str=>simp[Ow,zv,Ty.z]
  |unit=>simp[Ty.cell]at h
  |cons _ _=>simp[Ty.cell]at h
 | .unit,_=>by simp[Ow,Ek]
 | .int k,_=>by simp[Ow,Ek,zv,Ty.z]
 | .bool,_=>by simp[Ow,Ek,zv,Ty.z]
 | .str,_=>by simp[Ow,Ek,zv,Ty.z]
 | .sl q,_=>pZ
theorem Yb{n:Nat}:∀{css:List (List Value)} {ex:List Value} {i j:Nat} {cs:List Value},(∀c∈css,c.length=n)→css[i]? =some cs→j<n→(css.flatten++ex)[i*n+j]? =cs[j]?
 |[],_,_,_,_,_,h,_=>by simp at h
 |c::css,ex,0,j,cs,hl,h,hj=>by
  grind
 |c::css,ex,i+1,j,cs,hl,h,hj=>by
  have hc:=hl c (by simp);have ih:=Yb (css:=css) (ex:=ex) (i:=i) (j:=j) (cs:=cs) (fun c' cV=>hl c' (AWW _ cV)) (by simp_all) hj;simp only[ASK,AOT];rw[AQm (by grind),←ih];congr 1;grind
theorem mX{w:World}{b:Nat}{arr:Array Value}{ty:TypeId}{fr:ABg}(hb:w.heap[b]? =some (.cells arr ty fr)){n:Nat}{css:List (List Value)}{ex:List Value}(ha:arr.toList=css.flatten++ex)
  (hl:∀c∈css,c.length=n) {i:Nat} {cs:List Value} (h:css[i]? =some cs):Bb w b (i*n) cs:=by
 intro j v hj;have hjn:j<n:=by
  grind
 simp only[World.cell?,hb,AR0,AMZ,AQb];rw[←Array.getElem?_toList,ha,Yb hl h hjn,hj]
theorem ck{w:World}{S:Nat→Prop}{d b cap:Nat}{r:Ty}{rows:List r.D}{arr:Array Value}{ty:TypeId}{fr:ABg}(hb:w.heap[b]? =some (.cells arr ty fr)){css:List (List Value)}{ex:List Value}
  (ha:arr.toList=css.flatten++ex) (hc:css.length=rows.length) (xq:rows.length≤cap) (Pe:cap*r.n≤arr.size) (hu:uX fr (arr.size+mk r)) {Fs:List ABH} (hF:Fs.length=rows.length)
  (cC:∀(i:Nat) cs y G,css[i]? =some cs→rows[i]? =some y→Fs[i]? =some G→Ow w S d r cs y G):
  Ow w S (d+1) (.sl r) [.slice (some ⟨b,0,none⟩) rows.length cap] rows (b::Fs.flatten):=by
 have hl:∀c∈css,c.length=r.n:=by
  intro c cV;obtain⟨i,hi,rfl⟩:=ARg cV;exact Xz (cC i _ _ _ (AMJ hi) (AMJ (by omega)) (AMJ (by omega)))
 simp only[Ow];refine⟨_,cap,rfl,xq,.inr ⟨b,0,arr,ty,fr,Fs,rfl,hb,by omega,hu,rfl,hF,fun i y G hy hG=> ?_⟩⟩;have hi:i<css.length:=by
  grind
 refine⟨css[i],hl _ (AM3 hi),?_,cC i _ y G (AMJ hi) hy hG⟩;rw[AR5];grind[mX,List.getElem?_eq_getElem]
theorem Wt(n:Nat):uX (0,0) n:=fun i _ h=>by omega
theorem I4{w:World}{o:Obj}{c:Nat}(h:c<w.heap.size):(w.heap.push o)[c]? =w.heap[c]?:=by
 grind
section
variable{Y:Type} {P:Program} {T:J0} (hT:Ei P T) {o:Oper} {E:Env} {σ:St} {a:Act} {w:World} {k:K Y} {y:Y}
theorem ADe(h:Rel E σ a w){t:TypeId}{x:Operand}(ho:o.op= .box t x)(hk:(σ.ev x).cells.all AV.known=true)(hn:(σ.ev x).cells≠[])(e:k (.c (.Im σ.bx.length 0)) (σ.new (.mem (σ.ev x).cells))=some y):
  L7 P o E σ a w k y:=by
 obtain⟨h1,h2⟩:=pW (h.ev x) hk hn;obtain⟨r1,r2,r3⟩:=oI h t h1;refine⟨_,_,_,_,_,.inl ?_,r1,r3,r2.any,rfl,e⟩;simp only[execOp,ho,Instr.box,newVar,newRow,Sem.run_bind,run_newObj,Result.andThen_ok,Sem.run_pure];rfl
include hT
theorem row_zero{t:Nat}{r:Ty}(e:T.ir t=some r):∃i z,P.info? t=some i∧i.zero=some z∧z.cells.toList=Ek r∧r.sV=true:=by
 unfold J0.ir at e;split at e
 ·rename_i ti VC
  obtain⟨i,h1,_,_,h2⟩:=(hT t ti VC).info;simp_all
 simp_all
theorem xt(h:Rel E σ a w){t:TypeId}(ho:o.op= .alloc t){r:Ty}(hr:T.ir t=some r)(e:k (.c (.Im σ.bx.length 0)) (σ.new (.mem (bC r)))=some y):L7 P o E σ a w k y:=by
 obtain⟨i,z,h1,h2,h3,_⟩:=row_zero hT hr;obtain⟨r1,r2,r3⟩:=oI (arr:=z.cells) h t (by rw[h3];exact YF r);refine⟨_,_,_,_,_,.inl ?_,r1,r3,r2.any,rfl,e⟩;simp only[execOp,ho,Instr.alloc,zeroValue,typeInfo,newVar,newRow,Sem.run_bind,run_program,Result.andThen_ok,h1,h2,run_newObj,Sem.run_pure];rfl
end
end Go.Fw
end
section
namespace Go.Fw
def FK(arr:Array Value):Nat→List Value→Array Value
 |_,[]=>arr
 |o,c::l=>FK (arr.setIfInBounds o c) (o+1) l
theorem Fg:∀(l:List Value) (o:Nat) (arr:Array Value),(FK arr o l).size=arr.size
 |[],_,_=>rfl
 |c::l,o,arr=>by simp[FK,Fg l]
theorem pD(off:Nat):∀(l:List Value) (k:Nat) (arr:Array Value),(l.zipIdx k).foldl (fun cs (q:Value×Nat)=>cs.setIfInBounds (off+q.2) q.1) arr=FK arr (off+k) l
 |[],_,_=>rfl
 |c::l,k,arr=>by
  simp only[List.zipIdx_cons,List.foldl_cons,FK];rw[pD off l (k+1)];rfl
theorem XD{E:Env}{w:World}{vw:List Bx}:∀{xs:List AV} {vs:List Value} {cs dL:List AV} {arr:Array Value} {o:Nat},iy E w vw cs arr.toList→iy E w vw xs vs→W7 cs o xs=some dL→
  iy E w vw dL (FK arr o vs).toList∧o+xs.length≤cs.length∨(xs=[]∧dL=cs)
 |[],[],cs,dL,arr,o,h,_,e=>by simp only[W7,AMO]at e;simp_all
 |x::xs,v::vs,cs,dL,arr,o,h,hx,e=>by
  simp only[W7]at e;split at e
  case isFalse=>cases e
  rename_i ho;have h1:iy E w vw (cs.set o x) (arr.setIfInBounds o v).toList:=by
   rw[Array.toList_setIfInBounds];exact CX.set h hx.1
  rcases XD h1 hx.2 e with⟨h2,h3⟩|⟨rfl,rfl⟩
  ·refine .inl ⟨h2,?_⟩
   grind
  ·cases vs with
   |nil=>exact .inl ⟨h1,by grind⟩
   |cons _ _=>exact hx.2.elim
 |[],_::_,_,_,_,_,_,hx,_=>hx.elim
 |_::_,[],_,_,_,_,_,hx,_=>hx.elim
section
variable{Y:Type} {P:Program} {T:J0} (hT:Ei P T) {o:Oper} {E:Env} {σ:St} {a:Act} {w:World} {k:K Y} {y:Y}
def xo(E:Env)(w:World)(vw:List Bx)(l:List (Nat×XV))(m:List (Nat×Value)):Prop:=CX (fun x v=>x.1=v.1∧XR E w vw x.2 v.2) l m
theorem pq(h:Rel E σ a w)(ps:Array (Nat×Operand)):xo E w σ.bx (ps.toList.map fun q=>(q.1,σ.ev q.2)) (ps.map fun(i,x)=>(i,a.eval x)).toList:=by
 rw[Array.toList_map]
 generalize ps.toList=l
 induction l with
 |nil=>trivial
 |cons q l ih=>exact⟨⟨rfl,h.ev q.2⟩,ih⟩
theorem rP{place:Nat→Option ABg}{i off size:Nat}(hp:place i=some (off,size)){cells:Array Value}{v:Value}{rest:List (Nat×Value)}(h1:v.cells.size=size)(h2:off+v.cells.size≤cells.size):
  Instr.fill place cells ((i,v)::rest)=Instr.fill place (FK cells off v.cells.toList) rest:=by
 have e:v.cells.zipIdx.foldl (fun cs (q:Value×Nat)=>cs.setIfInBounds (off+q.2) q.1) cells=FK cells off v.cells.toList:=by
  rw[←Array.foldl_toList];have:(v.cells.zipIdx).toList=v.cells.toList.zipIdx:=by simp
  rw[this];exact pD off v.cells.toList 0 cells
 conv=>lhs;unfold Instr.fill
 grind
theorem oc{α β:Type}{f:α→Option β}{g:α→β}:∀{l:List α},(∀x∈l,f x=some (g x))→l.mapM f=some (l.map g)
 |[],_=>rfl
 |x::l,h=>by
  simp only[AWc,h x (by simp),oc (l:=l) (g:=g) (fun y hy=>h y (by simp[hy]))];rfl
include hT
theorem bP{fs:List ABg}{vw:List Bx}:∀{parts:List (Nat×XV)} {vals:List (Nat×Value)} {cs dL:List AV} {arr:Array Value},xo E w vw parts vals→iy E w vw cs arr.toList→gJ T fs cs parts=some dL→
  ∃Kf:Array Value,Instr.fill (fun i=>(fs[i]?).bind fun q=>((P.info? q.2).map fun i=>(q.1,i.size))) arr vals=some Kf∧iy E w vw dL Kf.toList
 |[],[],cs,dL,arr,_,h,e=>by
  simp only[gJ,AMO]at e;subst e;exact⟨arr,rfl,h⟩
 |(i,x)::ps,(j,v)::vs,cs,dL,arr,hp,h,e=>by
  obtain⟨⟨hij,hx⟩,hp⟩:=hp;simp only at hij hx;subst hij;simp only[gJ]at e;split at e
  case h_2=>cases e
  rename_i off u hf;split at e
  case h_2=>cases e
  rename_i ti VC;split at e
  case isFalse=>cases e
  rename_i hc;obtain⟨c1,c2,c3⟩:=hc;simp only[AMi]at e;obtain⟨cs1,e1,e2⟩:=e;have ax:x.cells≠[]:=by grind
  obtain⟨x1,x2⟩:=pW hx c3 ax;rcases XD h x1 e1 with⟨s1,s2⟩|⟨s1,_⟩
  ·have Pe:v.cells.size=ti.size:=by
    have:=x1.len;simp_all
   have hlen:=h.len;obtain⟨Kf,f1,f2⟩:=bP hp s1 e2;refine⟨Kf,?_,f2⟩;have AYg:(fun i=>(fs[i]?).bind fun q=>((P.info? q.2).map fun i=>(q.1,i.size))) i=some (off,ti.size):=by
    have:=Ei.size hT VC;simp_all
   grind[rP]
  simp_all
 |[],_::_,_,_,_,hp,_,_=>hp.elim
 |_::_,[],_,_,_,hp,_,_=>hp.elim
theorem xQ(h:Rel E σ a w){t:TypeId}{ps:Array (Nat×Operand)}(ho:o.op= .build t ps){s b:Nat}{fs:List ABg}{rw:Option Ty}(VC:T.get t=some ⟨s,b,.st fs,rw⟩){r:Ty}(hr:T.ir t=some r)
  {cs:List AV} (hb:gJ T fs (bC r) (ps.toList.map fun q=>(q.1,σ.ev q.2))=some cs) (e:k (.agg cs) σ=some y):L7 P o E σ a w k y:=by
 obtain⟨i,z,h1,h2,h3,_⟩:=row_zero hT hr;obtain⟨fields,hu,hfs,Pe⟩:=AF6 hT VC;obtain⟨Kf,f1,f2⟩:=bP hT (pq h ps) (arr:=z.cells) (by grind[YF]) hb;refine L7.same h (v:= .agg Kf) (x:= .agg cs) ?_ ⟨Kf,rfl,f2⟩ e
 have hb:P.built t (ps.map fun(i,x)=>(i,a.eval x)).toList=some Kf:=by
  unfold Program.built;simp only[h1,hu,h2];have hm:fields.toList.mapM (fun f=>(P.info? f.type).map fun i=>(f.offset,i.size))=some (fields.toList.map fun f=>(f.offset,((P.info? f.type).map (·.size)).getD 0)):=by
   grind[oc]
  simp only[hm];rw[←f1];congr 1;funext n;subst hfs;simp only[List.getElem?_toArray,ARa];cases hn:fields.toList[n]? with
  |none=>simp
  |some f=>
   obtain⟨i',DE,_⟩:=Pe f (AQq hn);simp[DE]
 grind[run_build,execOp,Sem.run_bind,Result.andThen_ok,Sem.run_pure]
end
end Go.Fw
end
section
namespace Go.Fw
theorem wrap_small{n:Int}(h0:0≤n)(h1:n≤(DF:Int)):IntKind.i64.wrap n=n:=by
 simp only[DF]at h1;unfold IntKind.wrap;simp only[IntKind.bits,IntKind.signed];grind
theorem HK{m:Nat}{zl:List Value}:((List.replicate m zl).flatten).length=m*zl.length:=by
 simp_all
theorem Nf{zl:List Value}:∀{m i:Nat},i<m*zl.length→((List.replicate m zl).flatten)[i]? =zl[i%zl.length]?
 |0,i,h=>by omega
 |m+1,i,h=>by
  simp only[List.replicate_succ,ASK];by_cases hi:i<zl.length
  ·rw[AQS hi,Nat.mod_eq_of_lt hi]
  ·have DE:zl.length≤i:=by omega
   rw[AQm DE,Nf (by grind),←Nat.mod_eq_sub_mod DE]
theorem WV{zero:Array Value}{zl:List Value}(hz:zero.toList=zl)(m:Nat)(h0:zl≠[]):((Array.range (m*zl.length)).map (fun i=>zero[i%zero.size]!)).toList=(List.replicate m zl).flatten:=by
 have hs:zero.size=zl.length:=by grind
 have AIV:0<zl.length:=AWY.2 h0;apply ATl;intro i;by_cases hi:i<m*zl.length
 ·grind[Nf,Nat.mod_lt,Array.toList_map,Array.toList_range,List.getElem?_range,List.getElem?_eq_getElem]
 simp_all
section
variable{Y:Type} {P:Program} {T:J0} (hT:Ei P T) {o:Oper} {E:Env} {σ:St} {a:Act} {w:World} {k:K Y} {y:Y}
include hT
theorem Wp{e:Nat}{ti:TI}{r:Ty}(he:T.get e=some ti)(hr:ti.row=some r):∃i z,P.info? e=some i∧i.size=ti.size∧i.bytes=ti.bytes∧i.zero=some z∧z.cells.toList=Ek r∧r.sV=true:=by
 obtain⟨i,h1,h2,h3,h4⟩:=(hT e ti he).info;simp_all
theorem ABJ(h:Rel E σ a w){t:TypeId}{l c:Operand}(ho:o.op= .makeSlice t l c)(e:r7 T t σ (σ.ev l) (σ.ev c) k=some y):L7 P o E σ a w k y:=by
 unfold r7 at e;split at e
 case h_2=>cases e
 rename_i el n m hd hl hc;split at e
 case h_2=>cases e
 rename_i r hr;split at e
 case isFalse=>cases e
 rename_i Us;split at e
 case isFalse=>cases e
 rename_i hb;obtain⟨b0,b1,b2⟩:=hb;obtain⟨el',ti,hu,VC,hs,hby,hrow⟩:=Kp hT Us;obtain⟨i,z,i1,i2,i3,i4,i5,hg⟩:=Wp hT VC hrow;obtain⟨κ1,e1⟩:=Ix hl (h.ev l);obtain⟨κ2,e2⟩:=Ix hc (h.ev c);have w1:=wrap_small b0 (by omega);have w2:=wrap_small (n:=m) (by omega) b2
 let arr:Array Value:=(Array.range (m.toNat*r.n)).map (fun j=>(if m.toNat*r.n=0 then #[]else z.cells)[j%(if m.toNat*r.n=0 then(#[]:Array Value)else z.cells).size]!)
 have cT:arr.toList=(List.replicate n.toNat (Ek r)).flatten++(List.replicate (m.toNat-n.toNat) (Ek r)).flatten:=by
  have hz:=Gz r;have split:(List.replicate n.toNat (Ek r)).flatten++(List.replicate (m.toNat-n.toNat) (Ek r)).flatten=(List.replicate m.toNat (Ek r)).flatten:=by
   grind[List.flatten_append,List.replicate_append_replicate]
  rw[split];by_cases h0:m.toNat*r.n=0
  ·grind[List.length_eq_zero_iff,HK]
  ·have ax:Ek r≠[]:=by
    grind
   have:=WV i5 m.toNat ax;grind
 let w':=w.alloc (.cells arr el')
 have new:w'.heap[w.heap.size]? =some (.cells arr el'):=by
  show(w.heap.push (.cells arr el'))[w.heap.size]? =_
  simp
 have AMR:arr.size=m.toNat*r.n:=by simp[arr]
 have how:Ow w' E.S (8+1) (.sl r) [.slice (some ⟨w.heap.size,0,none⟩) (List.replicate n.toNat r.z).length m.toNat] (List.replicate n.toNat r.z) (w.heap.size::(List.replicate n.toNat ([]:ABH)).flatten):=by
  refine ck new cT (by simp) (by grind) (by omega) (Wt _) (by simp) fun i cs y G h1 h2 h3=> ?_
  simp only[AVy]at h1 h2 h3;split at h1
  ·rename_i hi
   rw[AME hi]at h2 h3;grind[eN]
  simp_all
 have hF:(List.replicate n.toNat ([]:ABH)).flatten=[]:=by simp
 rw[hF]at how;simp only[ASC]at how;obtain⟨r1,r2,r3⟩:=T0 h (HL.refl h.bx) (w':=w') (d:=9) (by omega) how (by simp) (by simp) (by simp[w']) (fun c hc _=>I4 hc) ⟨rfl,rfl,rfl,by simp[w']⟩;refine⟨_,_,_,_,_,.inl ?_,r1,r3,r2.any,rfl,e⟩;have AY5:(i.bytes:Int)*m≤2^48:=by
  have h1:(i.bytes:Int)≤512:=by omega
  have h2:(i.bytes:Int)*m≤512*m:=Int.mul_le_mul_of_nonneg_right h1 (by omega);grind[DF]
 simp only[execOp,ho,Instr.makeSlice,e1,e2,Sem.run_bind,BW hu,Result.andThen_ok,asInt,asIntOf,Sem.run_pure,typeInfo,run_program,i1,w1,w2];rw[AMG (by grind)];by_cases h0:m.toNat*r.n=0
 ·have e3:arr=(Array.range (m.toNat*r.n)).map (fun j=>(#[]:Array Value)[j%(#[]:Array Value).size]!):=by simp_all
  simp only[Sem.run_bind,run_askRoom,Result.andThen_ok,sizeOf,typeInfo,run_program,i1,Sem.run_pure,i2,hs,h0,ARj,newRow,run_newObj];simp only[w',e3,h0];rfl
 ·have e3:arr=(Array.range (m.toNat*r.n)).map (fun j=>z.cells[j%z.cells.size]!):=by grind
  simp only[Sem.run_bind,run_askRoom,Result.andThen_ok,sizeOf,typeInfo,run_program,i1,Sem.run_pure,i2,hs,h0,AQb,newRow,run_newObj,zeroValue,i4];simp only[w',e3];rfl
end
end Go.Fw
end
section
namespace Go.Fw
theorem jJ{w:World}{B S:Nat→Prop}{d:Nat}:∀{r:Ty} {cs:List Value} {x:r.D},r.flat=true→Rd w B r cs x→Ow w S d r cs x []
 | .cons c r,cs,x,h,hr=>by
  simp only[Ty.flat,AMY]at h;simp only[Rd]at hr;obtain⟨v,l,rfl,h1,h2⟩:=hr;simp only[Ow];exact⟨v,l,[],[],rfl,rfl,jJ h.1 h1,jJ h.2 h2⟩
 | .unit,_,_,_,hr=>by grind[Rd,Ow]
 | .int k,_,_,_,hr=>by grind[Rd,Ow]
 | .bool,_,_,_,hr=>by grind[Rd,Ow]
 | .str,_,_,_,hr=>by grind[Rd,Ow]
 | .sl q,_,_,h,_=>by simp[Ty.flat]at h
theorem MQ{P:Program}{w:World}{b o:Nat}{cs:List Value}(h:Bb w b o cs):(loadCells ⟨b,o,none⟩ cs.length).run P w= .ok cs.toArray w:=
 run_loadCells_list (P:=P) w ⟨b,o,none⟩ cs fun j v hv=>by rw[Addr.add_eq];exact h j v hv
theorem XG{l:List Value}:(l.map fun v=>[v]).flatten=l:=by
 induction l with
 |nil=>rfl
 |cons a l ih=>simp[ih]
theorem ou{w:World}{B:Nat→Prop}{r:Ty}{b o:Nat}{ys:List r.D}(h:∀(i:Nat) (y:r.D),ys[i]? =some y→ ∃cs,cs.length=r.n∧Bb w b (o+i*r.n) cs∧Rd w B r cs y):
  ∃css:List (List Value),css.length=ys.length∧(∀c∈css,c.length=r.n)∧Bb w b o css.flatten∧ ∀(i:Nat) cs y,css[i]? =some cs→ys[i]? =some y→Rd w B r cs y:=by
 induction ys generalizing o with
 |nil=>exact⟨[],rfl,by simp,fun _ _ h=>by simp at h,fun i cs y h=>by simp at h⟩
 |cons y ys ih=>
  obtain⟨cs,c1,c2,c3⟩:=h 0 y rfl;obtain⟨css,d1,d2,d3,d4⟩:=ih (o:=o+r.n) (fun i z hz=>by
   obtain⟨cs,e1,e2,e3⟩:=h (i+1) z (by simp_all);grind)
  refine⟨cs::css,by simp[d1],by simp_all,?_,?_⟩
  ·intro j v hj
   simp only[ASK]at hj;by_cases wT:j<cs.length
   ·rw[AQS wT]at hj
    have:=c2 j v hj;simp_all
   ·rw[AQm (by omega)]at hj
    have:=d3 _ v hj;grind
  grind
theorem Bb.append{w:World}{b o:Nat}{l m:List Value}(h:Bb w b o l)(k:Bb w b (o+l.length) m):Bb w b o (l++m):=by
 intro j v hj;by_cases wT:j<l.length
 ·rw[AQS wT]at hj
  exact h j v hj
 ·rw[AQm (by omega)]at hj
  have:=k _ v hj;grind
section
variable{Y:Type} {P:Program} {T:J0} (hT:Ei P T) {o:Oper} {E:Env} {σ:St} {a:Act} {w:World} {k:K Y} {y:Y}
theorem I_(hT:Ei P T){t:Nat}{d:TD}(e:(T.get t).map TI.desc=some d):gn P t d:=by
 simp only[AMU]at e;obtain⟨ti,h1,rfl⟩:=e;exact(hT t ti h1).und
theorem p9{src dst e:Nat}(hs:P.underlying src=some (.slice e))(he:P.underlying e=some (.int .u8))(hd:P.underlying dst=some .string){x:Value}{l:AAF}{B:Nat→Prop}
  (h:Rd w B (.sl (.int .u8)) [x] l):(convert src dst x).run P w= .ok (.string ⟨(l.map fun n:Int=>UInt8.ofNat n.toNat).toArray⟩) w:=by
 simp only[Rd]at h;obtain⟨a,cap,hx,hle,h⟩:=h;simp only[ARF,ARx]at hx;subst hx;rcases h with h|⟨b,o,rfl,_,h⟩
 ·obtain rfl:=ARH h
  cases a with
  |none=>exact run_convert_bytes_nil w src e hs he _ _ dst hd
  |some a=>
   rw[run_convert_bytes_string w src dst e _ _ cap hs he hd];rfl
 ·refine run_convert_bytes_arg w src e hs he b o _ cap l rfl (fun i hi=> ?_) dst hd
  obtain⟨cs,c1,c2,c3⟩:=h i _ (AMJ hi);subst c3;have:=c2 0 _ rfl;grind
include hT in
theorem zt(h:Rel E σ a w){src dst:Nat}{x:Operand}(ho:o.op= .convert src dst x)(e:rb T src dst σ (σ.ev x) k=some y):L7 P o E σ a w k y:=by
 have hx:=h.ev x;unfold rb at e;split at e
 ·rename_i κ0 κ j n hs hd hv
  have h1:=I_ hT hs;have h2:=I_ hT hd;rw[hv]at hx;have Yj:=ak (E:=E) (w:=w) (vw:=σ.bx) hx;refine L7.same h (v:= .int κ (κ.wrap n)) (x:= .c (.v (.int κ) (κ.wrap n))) ?_ (VR.int (E:=E) (vw:=σ.bx) _ _) e
  simp only[gn]at h1 h2;simp only[execOp,ho,Yj,convert,Sem.run_bind,BW h1,BW h2,Result.andThen_ok,Conv.intToInt,Sem.run_pure]
 ·rename_i s hs hd hv
  have h1:=I_ hT hs;have h2:=I_ hT hd;rw[hv]at hx;have Yj:=Xx (E:=E) (w:=w) (vw:=σ.bx) hx;refine L7.same h (v:= .string ⟨s.toArray⟩) (x:= .c (.v .str s)) ?_ (VR.str (E:=E) (vw:=σ.bx) _) e
  simp only[gn]at h1 h2;simp only[execOp,ho,Yj,convert,Sem.run_bind,BW h1,BW h2,Result.andThen_ok,Sem.run_pure]
 ·rename_i el s hs hd hv
  have h1:=I_ hT hs;have h2:=I_ hT hd;rw[hv]at hx;have Yj:=Xx (E:=E) (w:=w) (vw:=σ.bx) hx;split at e
  case h_2=>cases e
  rename_i Us;have h3:=I_ hT Us;split at e
  case isFalse=>cases e
  rename_i X9;simp only[gn]at h1 h2 h3
  let S0:ByteArray:=⟨s.toArray⟩
  have Pe:S0.size=s.length:=by simp[S0,ByteArray.size]
  have ko:=Lib.run_convert_string_bytes (P:=P) w src dst el S0 h1 h2 h3;have xq:s.length≤grownCap w S0.size 0 el:=by rw[Pe];exact grownCap_ge _ _ _ _
  have new:=Lib.bytesWorld_at_new w el S0;have cT:(Lib.bytesCells w el S0).toList=(s.map fun c=>[Value.int .u8 (c.toNat:Int)]).flatten++List.replicate (grownCap w S0.size 0 el-S0.size) (.int .u8 0):=by
   have:(s.map fun c=>[Value.int .u8 (c.toNat:Int)]).flatten=s.map fun c=>Value.int .u8 (c.toNat:Int):=by
    have:=XG (l:=s.map fun c=>Value.int .u8 (c.toNat:Int));simpa[ATK,Function.comp_def]using this
   rw[this];simp[Lib.bytesCells,S0]
  have AMR:(Lib.bytesCells w el S0).size=grownCap w S0.size 0 el:=by
   rw[←ATy,cT];have:((s.map fun c=>[Value.int .u8 (c.toNat:Int)]).flatten).length=s.length:=by
    have:=XG (l:=s.map fun c=>Value.int .u8 (c.toNat:Int));rw[ATK]at this;have e2:(s.map fun c=>[Value.int .u8 (c.toNat:Int)])=s.map ((fun v=>[v])∘fun c=>Value.int .u8 (c.toNat:Int)):=rfl;rw[e2,this];simp
   rw[AOq,this,ASC];omega
  have how:Ow (Lib.bytesWorld w el S0) E.S (8+1) (.sl (.int .u8)) [.slice (some ⟨w.heap.size,0,none⟩) (s.map fun c=>(c.toNat:Int)).length (grownCap w S0.size 0 el)] (s.map fun c=>(c.toNat:Int))
    (w.heap.size::(List.replicate s.length ([]:ABH)).flatten):=by
   refine ck (css:=s.map fun c=>[Value.int .u8 (c.toNat:Int)]) new cT (by simp) (by simpa using xq) (by simp[Ty.n];omega) (fun i hi hh=>by simp only[mk]at hi;omega) (by simp) fun i cs y G q1 q2 q3=> ?_
   simp only[ARa,AMU]at q1 q2;obtain⟨c1,z1,rfl⟩:=q1;obtain⟨c2,z2,rfl⟩:=q2;rw[z1]at z2;cases z2;have:G=[]:=ASD (AQq q3);subst this;simp[Ow]
  have hF:(List.replicate s.length ([]:ABH)).flatten=[]:=by simp
  rw[hF]at how;obtain⟨r1,r2,r3⟩:=T0 h (HL.refl h.bx) (w':=Lib.bytesWorld w el S0) (d:=9) (by omega) how (by simp) (by simp) (by simp[Lib.bytesWorld_size]) (fun c hc _=>Lib.bytesWorld_at_old w el S0 c hc)
   ⟨by simp[Lib.bytesWorld,World.freeze]<;>rfl,by simp[Lib.bytesWorld,World.freeze]<;>rfl,by simp[Lib.bytesWorld,World.freeze]<;>rfl,by rw[Lib.bytesWorld_size];omega⟩
  refine⟨_,_,_,_,_,.inl ?_,r1,r3,r2.any,rfl,e⟩;simp only[execOp,ho,Yj,Sem.run_bind];have e5:=ko;simp only[S0]at e5;rw[e5];simp only[Result.andThen_ok,Sem.run_pure,ASL];rfl
 ·rename_i el z hs hd hv
  have h1:=I_ hT hs;have h2:=I_ hT hd;rw[hv]at hx;split at e
  case h_2=>cases e
  rename_i l Us hl;have h3:=I_ hT Us;simp only[gn]at h1 h2 h3;obtain⟨Fs,hB,hS⟩:=h.bx;have X5:=Uw (FM.refl σ.bx) hB hS.st hx hl;have hr:=p9 (P:=P) h1 h3 h2 X5;refine L7.same h (v:= .string ⟨(l.map fun n:Int=>UInt8.ofNat n.toNat).toArray⟩) (x:= .c (.v .str (l.map fun n:Int=>UInt8.ofNat n.toNat))) ?_ (VR.str (E:=E) (vw:=σ.bx) _) e
  simp only[execOp,ho,Sem.run_bind,hr,Result.andThen_ok,Sem.run_pure]
 ·cases e
end
end Go.Fw
end
section
namespace Go.Fw
theorem cD:∀(l:List Value) (o:Nat) (arr:Array Value) (p q:List Value),p.length=o→(∃m:List Value,m.length=l.length∧arr.toList=p++m++q)→(FK arr o l).toList=p++l++q
 |[],o,arr,p,q,hp,⟨m,hm,h⟩=>by
  grind[List.eq_nil_of_length_eq_zero,FK]
 |c::l,o,arr,p,q,hp,⟨m,hm,h⟩=>by
  cases m with
  |nil=>simp_all
  |cons b m=>
   simp only[FK];have:=cD l (o+1) (arr.setIfInBounds o c) (p++[c]) q (by simp[hp]) ⟨m,by simp_all,by
    simp_all⟩
   simp_all
theorem HL.more{E E1 E2:Env}{w:World}{vw bx jX aU:List Bx}{G F1 F2 A W:ABH}(k1:HL E w vw bx G E1 jX F1)(k2:HL E1 w vw jX (F1++G) E2 aU F2)(hp:F1.Perm (A++W)):
  let E3:Env:={ E2 with S:=fun c=>E2.S c∨c∈W,T:=fun c=>E2.T c∨c∈W }
  HL E w vw bx G E3 aU (A++F2):=by
 intro E3;have hB:=k2.boxes.perm (G':=(F2++A)++W++G) (by
  grind)
 obtain⟨hle,X6⟩:=hB.share;exact⟨(k1.le.trans k2.le).trans hle,k2.len.trans k1.len,fun b B hb=>(k2.within b B hb).elim .inl (k1.within b B),X6.perm (ATE _ List.perm_append_comm)⟩
theorem Ze{w:World}{vw:List Bx}{r:Ty}(hg:r.sV=true):∀{n i:Nat} {parts:List (Nat×XV)} {vals:List (Nat×Value)} {E:Env} {bx:List Bx} {G:ABH} {d:Nat} {rows:List r.D} {Qu:List Bx} {d':Nat},
  C7 E w vw bx G→FM bx vw→1≤d→xo E w vw parts vals→YI r i n parts bx d=some (rows,Qu,d')→1≤d'∧d'≤d∧rows.length=n∧ ∃(E':Env) (Fs:List ABH) (css:List (List Value)),
   HL E w vw bx G E' Qu Fs.flatten∧css.length=n∧Fs.length=n∧(∀(k:Nat) cs y G,css[k]? =some cs→rows[k]? =some y→Fs[k]? =some G→Ow w E'.S (d'-1) r cs y G)∧
   ∀(pre:List (List Value)) (arr:Array Value),pre.length=i→(∀c∈pre,c.length=r.n)→arr.toList=pre.flatten++(List.replicate n (Ek r)).flatten→
    ∃Kf,Instr.fill (fun i=>some (i*r.n,r.n)) arr vals=some Kf∧Kf.toList=pre.flatten++css.flatten
 |0,i,[],[],E,bx,G,d,rows,Qu,d',h,hw,hd,hp,e=>by
  simp only[YI,AMO,ARK]at e;obtain⟨rfl,rfl,rfl⟩:=e;refine⟨hd,AP3 _,rfl,E,[],[],HL.refl h,rfl,rfl,by simp,fun pre arr _ _ ha=>⟨arr,rfl,by simp_all⟩⟩
 |n+1,i,(j,x)::l,(j',v)::m,E,bx,G,d,rows,Qu,d',h,hw,hd,hp,e=>by
  obtain⟨⟨hj,hx⟩,hp⟩:=hp;simp only at hj hx;subst hj;simp only[YI]at e;split at e
  case isFalse=>cases e
  rename_i hij;subst hij;simp only[AMi,AMU,ARK]at e;obtain⟨⟨y1,jX,d1⟩,e1,⟨y2,aU,d2⟩,e2,rfl,rfl,rfl⟩:=e;dsimp only at e2⊢;obtain⟨a1,a2,E1,F1,k1,o1⟩:=vQ h hw hd hx e1;have vg:=k1.le.keep (w:=w) (vw:=vw) h.st;obtain⟨b1,b2,b3,E2,Fs,css,k2,c1,c2,c3,c4⟩:=Ze hg (G:=F1++G) k1.boxes (hw.pN k1) a1 (hp.imp fun _ _ q=>⟨q.1,PC vg q.2⟩) e2;obtain⟨A,W,oP,o1'⟩:=KU (d:=d'-1) (by omega) o1;refine⟨b1,ARV b2 a2,by simp[b3],_,A::Fs,v.cells.toList::css,HL.more k1 k2 oP,by simp[c1],by simp[c2],fun k cs y G' q1 q2 q3=> ?_,fun pre arr wG hpn ha=> ?_⟩
  ·cases k with
   |zero=>
    simp at q1 q2 q3;subst q1 q2 q3;refine EU (S:=fun b=>E1.S b∨b∈W) ?_ (fun _ _=>rfl) (fun _ _=>rfl) o1'
    intro c hc;exact hc.elim (fun h=> .inl (k2.le.S c h)) .inr
   |succ k=>
    refine EU (S:=E2.S) ?_ (fun _ _=>rfl) (fun _ _=>rfl) (c3 k cs y G' (by simp_all) (by simp_all) (by simp_all))
    simp_all
  ·have hlen:v.cells.toList.length=r.n:=Xz o1
   have hpf:pre.flatten.length=i*r.n:=by
    clear ha c4
    subst wG;clear e1 e2
    induction pre with
    |nil=>simp
    |cons c pre ih=>grind
   have Tk:(FK arr (i*r.n) v.cells.toList).toList=pre.flatten++v.cells.toList++(List.replicate n (Ek r)).flatten:=
    cD _ _ _ _ _ hpf ⟨Ek r,by rw[Gz,hlen],by grind⟩
   obtain⟨Kf,f1,f2⟩:=c4 (pre++[v.cells.toList]) (FK arr (i*r.n) v.cells.toList) (by simp[wG]) (by
    grind) (by simp_all)
   refine⟨Kf,?_,by simp_all⟩;rw[rP (i:=i) (off:=i*r.n) (size:=r.n) rfl (by omega) ?_]
   all_goals grind[List.length_append,HK,Gz,Nat.succ_mul]
 |n+1,i,[],[],E,bx,G,d,rows,Qu,d',h,hw,hd,hp,e=>by
  simp only[YI,AMU,ARK]at e;obtain⟨⟨y2,aU,d2⟩,e2,rfl,rfl,rfl⟩:=e;obtain⟨b1,b2,b3,E2,Fs,css,k2,c1,c2,c3,c4⟩:=Ze hg (G:=G) h hw hd (parts:=[]) (vals:=[]) trivial e2;refine⟨b1,b2,by simp[b3],E2,[]::Fs,Ek r::css,by simp_all,by simp[c1],by simp[c2],fun k cs y G' q1 q2 q3=> ?_,fun pre arr wG hpn ha=> ?_⟩
  ·grind[eN]
  ·obtain⟨Kf,f1,f2⟩:=c4 (pre++[Ek r]) arr (by simp[wG]) (by
    grind[Gz]) (by grind)
   simp_all
 |0,_,_::_,_,_,_,_,_,_,_,_,_,_,_,_,e=>by simp[YI]at e
 |0,_,[],_::_,_,_,_,_,_,_,_,_,_,_,hp,_=>hp.elim
 |_+1,_,[],_::_,_,_,_,_,_,_,_,_,_,_,hp,_=>hp.elim
 |_+1,_,_::_,[],_,_,_,_,_,_,_,_,_,_,hp,_=>hp.elim
section
variable{Y:Type} {P:Program} {T:J0} (hT:Ei P T) {o:Oper} {E:Env} {σ:St} {a:Act} {w:World} {k:K Y} {y:Y}
include hT
theorem mD(h:Rel E σ a w){t n:Nat}{ps:Array (Nat×Operand)}(ho:o.op= .buildSlice t n ps)(e:RI T t n (ps.toList.map fun q=>(q.1,σ.ev q.2)) σ k=some y):L7 P o E σ a w k y:=by
 unfold RI at e;split at e
 case h_2=>cases e
 rename_i el hd;split at e
 case h_2=>cases e
 rename_i r hr;split at e
 case isFalse=>cases e
 rename_i hc;simp only[AMY,AOV]at hc;obtain⟨⟨Us,hn⟩,hrn⟩:=hc;simp only[AMi]at e;obtain⟨⟨rows,Qu,d'⟩,e1,e⟩:=e;dsimp only at e;obtain⟨el',ti,hu,VC,hs,hby,hrow⟩:=Kp hT Us;obtain⟨i,z,i1,i2,i3,i4,i5,hg⟩:=Wp hT VC hrow;have AP4:=pq h ps;obtain⟨b1,b2,b3,E',Fs,css,k2,c1,c2,c3,c4⟩:=Ze hg h.bx (FM.refl _) (by omega) AP4 e1
 let zero:Array Value:=if n*r.n=0 then #[]else z.cells
 have hz:((Array.range (n*r.n)).map (fun j=>zero[j%zero.size]!)).toList=(List.replicate n (Ek r)).flatten:=by
  by_cases h0:n*r.n=0
  ·have h1:(List.replicate n (Ek r)).flatten=[]:=by
    rw[←ASq,HK,Gz,h0]
   rw[h1];simp[h0]
  ·have ax:Ek r≠[]:=by
    intro he;have:=Gz r;rw[he]at this;simp at this;rw[←this]at h0;simp at h0
   have:=WV i5 n ax;rw[Gz]at this;simp only[zero,AMG h0];exact this
 obtain⟨Kf,f1,f2⟩:=c4 [] _ rfl (by simp) (by rw[hz];simp);simp only[AT0,AQU]at f2
 let w':=w.alloc (.cells Kf el')
 have new:w'.heap[w.heap.size]? =some (.cells Kf el'):=by
  show(w.heap.push (.cells Kf el'))[w.heap.size]? =_
  simp
 obtain⟨d,rfl⟩:∃m,d' =m+1:=⟨d'-1,by omega⟩;have hl:∀c∈css,c.length=r.n:=by
  intro c hc;obtain⟨j,hj,rfl⟩:=ARg hc;exact Xz (c3 j _ _ _ (AMJ hj) (AMJ (by omega)) (AMJ (by omega)))
 have wa:css.flatten.length=n*r.n:=by
  rw[←c1];clear f2 c3 c4 c1
  induction css with
  |nil=>simp
  |cons c l ih=>simp[hl c (by simp),ih (fun c hc=>hl c (by simp[hc])),Nat.succ_mul];omega
 have AMR:Kf.size=n*r.n:=by rw[←ATy,f2,wa]
 obtain⟨Fs0,hB1,X6⟩:=k2.boxes;simp only[AN8]at X6;have how:Ow w' E'.S (d+1) (.sl r) [.slice (some ⟨w.heap.size,0,none⟩) rows.length n] rows (w.heap.size::Fs.flatten):=by
  refine ck (css:=css) (ex:=[]) new (by simpa using f2) (by omega) (by omega) (by omega) (Wt _) (by omega) fun k cs y G q1 q2 q3=> ?_
  have UI:∀c∈G,c∈Fs.flatten:=fun c hc=>ARc.2 ⟨G,AQq q3,hc⟩
  exact EU (fun _ h=>h) (fun c hc=>I4 (X6.cf c (X6.st c hc))) (fun c hc=>I4 (X6.lt c (by simp only[APr];exact .inr (UI c hc)))) (by simpa using c3 k cs y G q1 q2 q3)
 rw[b3]at how;obtain⟨r1,r2,r3⟩:=T0 h k2 (w':=w') (d:=d+1) (by omega) how (by
   intro c hc;rcases AQw.1 hc with rfl|hc
   ·exact .inr (AP3 _)
   ·exact .inl hc) (by
   refine AU_.2 ⟨fun hc=> ?_,(AP2.1 X6.nodup).2.1⟩;have:=X6.lt w.heap.size (by simp only[APr];exact .inr hc);omega) (by
   intro c hc;rcases AQw.1 hc with rfl|hc
   ·simp[w']
   ·have:=X6.lt c (by simp only[APr];exact .inr hc)
    simp[w'];omega) (fun c hc _=>I4 hc) ⟨rfl,rfl,rfl,by simp[w']⟩
 refine⟨_,_,_,_,_,.inl ?_,r1,r3,r2.any,rfl,e⟩;have X9: ¬(n*r.n>2^24):=by
  have:n*r.n≤1024*1024:=Nat.mul_le_mul hn hrn;omega
 simp only[execOp,ho,Instr.buildSlice,Sem.run_bind,BW hu,Result.andThen_ok,sizeOf,typeInfo,run_program,i1,Sem.run_pure,i2,hs,X9,AQb];by_cases h0:n*r.n=0
 ·have hz0:zero= #[]:=by simp only[zero,AME h0]
  rw[hz0]at f1;simp only[h0,ARj,Sem.run_bind,Sem.run_pure,Result.andThen_ok];rw[h0]at f1;simp only[f1,newRow,Sem.run_bind,run_newObj,Result.andThen_ok,Sem.run_pure];rfl
 ·have hz0:zero=z.cells:=by simp only[zero,AMG h0]
  rw[hz0]at f1;simp only[h0,AQb,Sem.run_bind,zeroValue,typeInfo,run_program,Result.andThen_ok,i1,Sem.run_pure,i4];simp only[f1,newRow,Sem.run_bind,run_newObj,Result.andThen_ok,Sem.run_pure];rfl
end
end Go.Fw
end
section
namespace Go.Fw
theorem bJ(w:World)(b o:Nat)(v:Value):(w.setCell ⟨b,o,none⟩ v).heap=w.heap.modify b fun
 | .cells c elem frozen=> .cells (c.setIfInBounds o v) elem frozen
 |o=>o:=rfl
theorem Ff:∀(vs:List Value) (o:Nat) (w:World) (b:Nat) (arr:Array Value) (ty:TypeId) (fr:ABg),w.heap[b]? =some (.cells arr ty fr)→
  (w.setCells b o vs).heap[b]? =some (.cells (FK arr o vs) ty fr)
 |[],_,_,_,_,_,_,h=>h
 |v::l,o,w,b,arr,ty,fr,h=>by
  simp only[World.setCells,FK];refine Ff l (o+1) _ b _ ty fr ?_
  rw[bJ,Array.getElem?_modify,AME rfl,h];rfl
theorem DY:∀(vs:List Value) (o:Nat) (w:World) (b:Nat),(w.setCells b o vs).heap.size=w.heap.size
 |[],_,_,_=>rfl
 |v::l,o,w,b=>by
  simp only[World.setCells];rw[DY l,bJ,Array.size_modify]
theorem DQ:∀(vs:List Value) (o:Nat) (w:World) (b c:Nat),c≠b→(w.setCells b o vs).heap[c]? =w.heap[c]?
 |[],_,_,_,_,_=>rfl
 |v::l,o,w,b,c,h=>by
  simp only[World.setCells];rw[DQ l _ _ _ _ h,bJ,Array.getElem?_modify,AMG (fun e=>h e.symm)]
theorem CA:∀(vs:List Value) (o:Nat) (w:World) (b:Nat),Grown w (w.setCells b o vs)
 |[],_,_,_=>⟨rfl,rfl,rfl,AP3 _⟩
 |v::l,o,w,b=>by
  have:=CA l (o+1) (w.setCell ⟨b,o,none⟩ v) b;refine⟨this.os,this.tape,this.output,?_⟩;rw[DY];omega
theorem Wc{arr:Array Value}:∀{l:List Value} {o j:Nat},o+l.length≤arr.size→(FK arr o l)[j]? =if o≤j∧j<o+l.length then l[j-o]? else arr[j]?:=by
 intro l
 induction l generalizing arr with
 |nil=>intro o j _;rw[AMG (fun hh=>by grind)];rfl
 |cons c l ih=>
  intro o j h;simp only[AN0]at h;simp only[FK];grind
theorem LC{w:World}{b o:Nat}{arr:Array Value}{ty:TypeId}{fr:ABg}(h:w.heap[b]? =some (.cells arr ty fr)):w.cell? ⟨b,o,none⟩=arr[o]?:=by
 simp[World.cell?,h]
theorem Ol{w:World}{b o:Nat}{vs:List Value}{arr:Array Value}{ty:TypeId}{fr:ABg}(h:w.heap[b]? =some (.cells arr ty fr))(hs:o+vs.length≤arr.size):Bb (w.setCells b o vs) b o vs:=by
 intro j v hj;have hl:=(AMX.1 hj).1;rw[LC (Ff vs o w b arr ty fr h),Wc hs,AME (by omega),show o+j-o=j by omega,hj]
theorem UR{w:World}{b b' o o':Nat}{vs cs:List Value}{arr:Array Value}{ty:TypeId}{fr:ABg}(hc:Bb w b' o' cs)(h:w.heap[b]? =some (.cells arr ty fr))(hs:o+vs.length≤arr.size)
  (ha:b'≠b∨o'+cs.length≤o∨o+vs.length≤o'):Bb (w.setCells b o vs) b' o' cs:=by
 intro j v hj;have hl:=(AMX.1 hj).1;by_cases hb:b' =b
 ·subst hb
  have:=hc j v hj;rw[LC h]at this;rw[LC (Ff vs o w b' arr ty fr h),Wc hs,AMG (by omega),this]
 ·rw[World.cell?_of_block (a:=⟨b',o'+j,none⟩) (DQ vs o w b b' hb)]
  exact hc j v hj
theorem U6{w:World}{b o n k:Nat}{arr:Array Value}{ty:TypeId}{fr:ABg}(h:w.heap[b]? =some (.cells arr ty fr))(hs:o+n≤arr.size)(hu:uX fr (arr.size+k)):w.there b o n:=by
 intro j hj;refine⟨?_,?_⟩
 ·rw[LC h]
  grind
 ·have:=hu (o+j) (by omega)
  grind[World.frozen?]
theorem jx{w:World}{S:Nat→Prop}:∀{r:Ty} {d:Nat} {cs:List Value} {y:r.D} {F:ABH},Ow w S d r cs y F→ ∀v∈cs,v.oneCell' =true
 | .int _,_,_,_,_,h,v,hv=>by simp only[Ow]at h;rw[h.1]at hv;simp at hv;subst hv;rfl
 | .bool,_,_,_,_,h,v,hv=>by simp only[Ow]at h;rw[h.1]at hv;simp at hv;subst hv;rfl
 | .str,_,_,_,_,h,v,hv=>by simp only[Ow]at h;rw[h.1]at hv;simp at hv;subst hv;rfl
 | .unit,_,_,_,_,h,v,hv=>by grind[Ow]
 | .sl _,0,_,_,_,h,v,hv=>by
  simp only[Ow,Rd]at h;obtain⟨⟨_,_,rfl,_⟩,_⟩:=h;simp at hv;subst hv;rfl
 | .sl _,_+1,_,_,_,h,v,hv=>by
  simp only[Ow]at h;obtain⟨_,_,rfl,_⟩:=h;simp at hv;subst hv;rfl
 | .cons _ _,_,_,_,_,h,v,hv=>by
  simp only[Ow]at h;obtain⟨u,l,F1,F2,rfl,_,h1,h2⟩:=h;rcases AQw.1 hv with rfl|hv
  ·exact jx h1 _ (by simp)
  ·exact jx h2 _ hv
section
variable{P:Program} {w:World}
structure kY (P:Program) (w:World) (size n:Nat) (x:Value) (news:List Value):Prop where
 len:∀w',(Builtin.lenOf x).run P w' = .ok n w'
 cells:∀w',w'.heap=w.heap→(Builtin.firstCells size n x).run P w' = .ok news.toArray w'
theorem fV{ts:Array TypeId}{t u ty e:TypeId}(vk:ts[0]? =some t)(vn:ts[1]? =some u){i:TypeInfo}{size:Nat}(ht:P.underlying t=some (.slice e))(hu:(∃e,P.underlying u=some (.slice e))∨P.underlying u=some .string)(hi:P.info? e=some i)(Pe:i.size=size)
  {b o VU iC n:Nat} {x:Value} {news:List Value} (hn:kY P w size n x news) (TH:VU+n≤iC) (nX:w.there b (o+VU*size) news.length) (h1:∀v∈news,v.oneCell' =true):
  (Builtin.append_ ts ty #[.slice (some ⟨b,o,none⟩) VU iC,x]).run P w= .ok (.slice (some ⟨b,o,none⟩) (VU+n) iC) (w.setCells b (o+VU*size) news):=by
 subst Pe;have qM:=run_storeCells_cells (P:=P) b (o+VU*i.size) news 0 w (fun j hj=>by simpa using(nX j hj).1) (fun j hj=>by simpa using(nX j hj).2) h1;simp only[ASI]at qM;have hl:=hn.len w;have hf:=hn.cells w rfl;rcases hu with⟨e',hu⟩|hu
 ·simp[Builtin.append_,vk,vn,run_underlying ht,run_underlying hu,sizeOf,typeInfo,hi,hl,TH,hf,Addr.add_eq,qM]
 ·simp[Builtin.append_,vk,vn,run_underlying ht,run_underlying hu,sizeOf,typeInfo,hi,hl,TH,hf,Addr.add_eq,qM]
theorem mh{ts:Array TypeId}{t u ty e:TypeId}(vk:ts[0]? =some t)(vn:ts[1]? =some u){i:TypeInfo}{size:Nat}(ht:P.underlying t=some (.slice e))(hu:(∃e,P.underlying u=some (.slice e))∨P.underlying u=some .string)(hi:P.info? e=some i)(Pe:i.size=size)
  {a:Option Addr} {x:Value} (hn:kY P w size 0 x []):
  (Builtin.append_ ts ty #[.slice a 0 0,x]).run P w= .ok (.slice a 0 0) w:=by
 subst Pe;have hl:=hn.len w;have hf:=hn.cells w rfl;cases a with
 |none=>
  rcases hu with⟨e',hu⟩|hu
  ·simp[Builtin.append_,vk,vn,run_underlying ht,run_underlying hu,sizeOf,typeInfo,hi,hl,hf]
  ·simp[Builtin.append_,vk,vn,run_underlying ht,run_underlying hu,sizeOf,typeInfo,hi,hl,hf]
 |some a=>
  have qM:(storeCells (a.add (0*i.size)) [] 0).run P w= .ok () w:=rfl;rcases hu with⟨e',hu⟩|hu
  ·simp[Builtin.append_,vk,vn,run_underlying ht,run_underlying hu,sizeOf,typeInfo,hi,hl,hf,storeCells]
  ·simp[Builtin.append_,vk,vn,run_underlying ht,run_underlying hu,sizeOf,typeInfo,hi,hl,hf,storeCells]
theorem bw{ts:Array TypeId}{t u ty e:TypeId}(vk:ts[0]? =some t)(vn:ts[1]? =some u){i:TypeInfo}{z:Value}{size:Nat}(ht:P.underlying t=some (.slice e))(hu:(∃e,P.underlying u=some (.slice e))∨P.underlying u=some .string)(hi:P.info? e=some i)(hz:i.zero=some z)(Pe:i.size=size)
  {a:Option Addr} {VU iC n:Nat} {x:Value} {AU7 news:List Value} (ho:∀w',w'.heap=w.heap→(Builtin.firstCells size VU (.slice a VU iC)).run P w' = .ok AU7.toArray w')
  (hn:kY P w size n x news) (AVX:iC<VU+n) (h63:VU+n≤DF) (hby:i.bytes≤512):
  (Builtin.append_ ts ty #[.slice a VU iC,x]).run P w= .ok (.slice (some ⟨w.heap.size,0,none⟩) (VU+n) (grownCap w (VU+n) iC e))
   (w.drew.alloc (.cells (AU7.toArray++news.toArray++Builtin.zeroCells z.cells (grownCap w (VU+n) iC e-(VU+n))) e)):=by
 subst Pe;have hl:=hn.len w;have hf:=hn.cells w.drew rfl;have hfo:=ho w.drew rfl;have hno: ¬(VU+n≤iC):=by omega
 have hb:(VU+n)*i.bytes≤140737488355328:=by
  have:(VU+n)*i.bytes≤DF*512:=Nat.mul_le_mul h63 hby;grind[DF]
 have h48:=growslice_fits AVX hb;have ASh: ¬(281474976710656<Builtin.nextslicecap (VU+n) iC*i.bytes):=by omega
 have AWA: ¬(9223372036854775807<((VU:Int)+(n:Int))):=by grind[DF]
 rcases hu with⟨e',hu⟩|hu
 ·simp[Builtin.append_,vk,vn,run_underlying ht,run_underlying hu,sizeOf,typeInfo,zeroValue,hi,hz,hl,hno,AWA,ASh,Question.forced,hf,hfo,newRow,grownCap]
  grind
 ·simp[Builtin.append_,vk,vn,run_underlying ht,run_underlying hu,sizeOf,typeInfo,zeroValue,hi,hz,hl,hno,AWA,ASh,Question.forced,hf,hfo,newRow,grownCap]
  grind
end
end Go.Fw
end
section
namespace Go.Fw
def FL(w:World)(S:Nat→Prop)(d:Nat)(r:Ty)(css:List (List Value))(rows:List r.D)(Fs:List ABH):Prop:=
 css.length=rows.length∧Fs.length=rows.length∧(∀c∈css,c.length=r.n)∧ ∀(i:Nat) cs y G,css[i]? =some cs→rows[i]? =some y→Fs[i]? =some G→Ow w S d r cs y G
theorem FL.mono{w w':World}{S S':Nat→Prop}{d:Nat}{r:Ty}{css:List (List Value)}{rows:List r.D}{Fs:List ABH}(h:FL w S d r css rows Fs)(hS:∀c,S c→S' c)(hw:∀c,S c→w'.heap[c]? =w.heap[c]?)
  (hF:∀c∈Fs.flatten,w'.heap[c]? =w.heap[c]?):FL w' S' d r css rows Fs:=
 ⟨h.1,h.2.1,h.2.2.1,fun i cs y G a b c=>EU hS hw (fun x hx=>hF x (ARc.2 ⟨G,AQq c,hx⟩)) (h.2.2.2 i cs y G a b c)⟩
theorem FL.append{w:World}{S:Nat→Prop}{d:Nat}{r:Ty}{css ATU:List (List Value)}{rows Cz:List r.D}{Fs Fs':List ABH}(h:FL w S d r css rows Fs)(k:FL w S d r ATU Cz Fs'):
  FL w S d r (css++ATU) (rows++Cz) (Fs++Fs'):=by
 refine⟨by simp[h.1,k.1],by simp[h.2.1,k.2.1],fun c hc=>(APr.1 hc).elim (h.2.2.1 c) (k.2.2.1 c),fun i cs y G a b c=> ?_⟩;by_cases hi:i<rows.length
 ·rw[AQS (by rw[h.1];omega)]at a
  rw[AQS hi]at b;rw[AQS (by rw[h.2.1];omega)]at c;exact h.2.2.2 i cs y G a b c
 ·rw[AQm (by rw[h.1];omega)]at a
  rw[AQm (by omega)]at b;rw[AQm (by rw[h.2.1];omega)]at c;rw[h.1]at a;rw[h.2.1]at c;exact k.2.2.2 _ cs y G a b c
theorem FL.weaken{w:World}{S:Nat→Prop}{d d':Nat}{r:Ty}{css:List (List Value)}{rows:List r.D}{Fs:List ABH}(h:FL w S d r css rows Fs)(hd:d'≤d):
  ∃(Gs:List ABH) (W:ABH),Fs.flatten.Perm (Gs.flatten++W)∧FL w (fun c=>S c∨c∈W) d' r css rows Gs:=by
 obtain⟨Gs,Ws,h1,h2,h3,h4⟩:=qE (R:=fun i G F W=> ∀cs y,css[i]? =some cs→rows[i]? =some y→Ow w (fun c=>S c∨c∈W) d' r cs y F) Fs 0 (fun i G hG=>by
  rw[AR5];have hi:=(AMX.1 hG).1;have h1:=h.1;have h2:=h.2.1;obtain⟨F,W,hp,ho⟩:=KU hd (h.2.2.2 i _ _ G (AMJ (by omega)) (AMJ (by omega)) hG);grind)
 refine⟨Gs,Ws.flatten,h3,h.1,h1.trans h.2.1,h.2.2.1,fun i cs y G a b c=> ?_⟩;have hi:=(AMX.1 c).1;have hw:Ws[i]? =some (Ws[i]'(by omega)):=AMJ _;have hf:Fs[i]? =some (Fs[i]'(by omega)):=AMJ _;have:=h4 i _ _ _ hf c hw cs y (by simp_all) (by simp_all);exact EU (fun x hx=>hx.imp id fun hx=>ARc.2 ⟨_,AQq hw,hx⟩) (fun _ _=>rfl) (fun _ _=>rfl) this
theorem IB{n:Nat}:∀{css:List (List Value)},(∀c∈css,c.length=n)→css.flatten.length=css.length*n
 |[],_=>by simp
 |c::l,h=>by simp[h c (by simp),IB (css:=l) (fun c hc=>h c (by simp[hc])),Nat.succ_mul];omega
theorem FL.one{w:World}{S:Nat→Prop}{d:Nat}{r:Ty}{css:List (List Value)}{rows:List r.D}{Fs:List ABH}(h:FL w S d r css rows Fs):∀v∈css.flatten,v.oneCell' =true:=by
 intro v hv;obtain⟨c,hc,hv⟩:=ARc.1 hv;obtain⟨i,hi,rfl⟩:=ARg hc;have h1:=h.1;have h2:=h.2.1;exact jx (h.2.2.2 i _ _ _ (AMJ hi) (AMJ (by omega)) (AMJ (by omega))) v hv
theorem FL.flat{w:World}{B S:Nat→Prop}{d:Nat}{r:Ty}(hf:r.flat=true){css:List (List Value)}{rows:List r.D}(h1:css.length=rows.length)(h2:∀c∈css,c.length=r.n)
  (h3:∀(i:Nat) cs y,css[i]? =some cs→rows[i]? =some y→Rd w B r cs y):FL w S d r css rows (List.replicate rows.length []):=by
 refine⟨h1,by simp,h2,fun i cs y G a b c=> ?_⟩;grind[List.mem_of_getElem?,jJ]
theorem Bb.heap{w w':World}{b o:Nat}{cs:List Value}(h:Bb w b o cs)(e:w'.heap=w.heap):Bb w' b o cs:=h.of_block (by rw[e])
theorem Qy{P:Program}{w:World}{a:Option Addr}{n cap size:Nat}{css:List (List Value)}(hl:css.length=n)(hc:∀c∈css,c.length=size)
  (h:n=0∨ ∃b o,a=some ⟨b,o,none⟩∧Bb w b o css.flatten):kY P w size n (.slice a n cap) css.flatten:=by
 refine⟨fun w' =>rfl,fun w' e=> ?_⟩;have hlen:css.flatten.length=n*size:=by rw[IB hc,hl]
 rcases h with rfl|⟨b,o,rfl,h⟩
 ·have:css=[]:=ARH hl
  subst this;cases a with
  |none=>rfl
  |some a=>
   simp only[Builtin.firstCells,Nat.zero_mul,AT0];rfl
 ·simp only[Builtin.firstCells]
  rw[←hlen];exact MQ (h.heap e)
theorem ADG{P:Program}{w:World}{s:ABY}:kY P w 1 s.length (.string ⟨s.toArray⟩) (s.map fun c=>[Value.int .u8 (c.toNat:Int)]).flatten:=by
 refine⟨fun w' =>rfl,fun w' _=> ?_⟩;have Pe:(⟨s.toArray⟩:ByteArray).size=s.length:=by rfl
 have e1:(⟨s.toArray⟩:ByteArray).extract 0 s.length=⟨s.toArray⟩:=by
  rw[←Pe];apply ByteArray.ext;simp
 simp only[Builtin.firstCells,e1,Sem.run_pure];have:(s.map fun c=>[Value.int .u8 (c.toNat:Int)]).flatten=s.map fun c=>Value.int .u8 (c.toNat:Int):=by
  have:=XG (l:=s.map fun c=>Value.int .u8 (c.toNat:Int));grind[List.map_map,Function.comp_def]
 simp_all
theorem nB{w:World}{S:Nat→Prop}{d:Nat}{r:Ty}{v:Value}{rows:List r.D}{F:ABH}(h:Ow w S (d+1) (.sl r) [v] rows F):
  ∃a cap css Fs R,v= .slice a rows.length cap∧rows.length≤cap∧FL w S d r css rows Fs∧F.Perm (Fs.flatten++R)∧
   ((cap=0∧F=[])∨ ∃b o arr ty fr,a=some ⟨b,o,none⟩∧w.heap[b]? =some (.cells arr ty fr)∧o+cap*r.n≤arr.size∧uX fr (arr.size+mk r)∧F=b::Fs.flatten∧Bb w b o css.flatten):=by
 simp only[Ow]at h;obtain⟨a,cap,e,hle,h⟩:=h;simp only[ARF,ARx]at e;subst e;rcases h with⟨h,rfl⟩|⟨b,o,arr,ty,fr,Fs,rfl,hb,Pe,hu,rfl,hFl,hr⟩
 ·have:rows=[]:=ARH (by omega)
  subst this;exact⟨a,cap,[],[],[],rfl,hle,⟨rfl,rfl,by simp,fun i cs y G h=>by simp at h⟩,by simp,.inl ⟨h,rfl⟩⟩
 ·
  have key:∀(n o:Nat) (ys:List r.D) (Fs:List ABH),ys.length=n→Fs.length=n→(∀(i:Nat) (y:r.D) (G:ABH),ys[i]? =some y→Fs[i]? =some G→ ∃cs,cs.length=r.n∧Bb w b (o+i*r.n) cs∧Ow w S d r cs y G)→
    ∃css,FL w S d r css ys Fs∧Bb w b o css.flatten:=by
   intro n
   induction n with
   |zero=>
    intro o ys Fs h1 h2 _;obtain rfl:=ARH h1;obtain rfl:=ARH h2;exact⟨[],⟨rfl,rfl,by simp,fun i cs y G h=>by simp at h⟩,fun _ _ h=>by simp at h⟩
   |succ n ih=>
    intro o ys Fs h1 h2 hh;obtain⟨y,ys,rfl⟩:=AVU h1;obtain⟨G,Fs,rfl⟩:=AVU h2;obtain⟨cs,c1,c2,c3⟩:=hh 0 y G rfl rfl;obtain⟨css,d1,d2⟩:=ih (o+r.n) ys Fs (by simp_all) (by simp_all) (fun i z G hz hG=>by
     obtain⟨cs,e1,e2,e3⟩:=hh (i+1) z G (by simp_all) (by simp_all);grind)
    refine⟨cs::css,⟨by simp[d1.1],by omega,fun c hc=> ?_,fun i dL y' G' a b c=> ?_⟩,?_⟩
    ·rcases AQw.1 hc with rfl|hc
     ·omega
     ·exact d1.2.2.1 c hc
    ·cases i with
     |zero=>simp_all
     |succ i=>exact d1.2.2.2 i dL y' G' (by simp_all) (by simp_all) (by simp_all)
    grind[List.flatten_cons,Bb.append]
  obtain⟨css,k1,k2⟩:=key rows.length o rows Fs rfl hFl hr;refine⟨_,cap,css,Fs,[b],rfl,hle,k1,?_,.inr ⟨b,o,arr,ty,fr,rfl,hb,Pe,hu,rfl,k2⟩⟩;grind
theorem kv{w:World}{S:Nat→Prop}:∀{r:Ty} {cs:List Value} {x:r.D},Rd w S r cs x→Ow w S 0 r cs x []
 | .cons c r,cs,x,hr=>by
  simp only[Rd]at hr;obtain⟨v,l,rfl,h1,h2⟩:=hr;simp only[Ow];exact⟨v,l,[],[],rfl,rfl,kv h1,kv h2⟩
 | .unit,_,_,hr=>by grind[Rd,Ow]
 | .int k,_,_,hr=>by grind[Rd,Ow]
 | .bool,_,_,hr=>by grind[Rd,Ow]
 | .str,_,_,hr=>by grind[Rd,Ow]
 | .sl q,_,_,hr=>by simp only[Ow];simp_all
theorem fR{P:Program}{E:Env}{w:World}{vw bx:List Bx}{G:ABH}(h:C7 E w vw bx G)(hw:FM bx vw){x:AV}{v:Value}(hv:VR E w vw x v){r:Ty}{rows:List r.D}{Qu:List Bx}{d:Nat}
  (e:nD bx x=some ⟨r,rows,Qu,d⟩):1≤d∧ ∃E' F css Fs R,HL E w vw bx G E' Qu F∧F.Perm (List.flatten Fs++R)∧FL w E'.S (d-1) r css rows Fs∧kY P w r.n rows.length v css.flatten:=by
 have plain:∀{B:Nat→Prop} {ys:List r.D},r.flat=true→Rd w B (.sl r) [v] ys→ ∀S:Nat→Prop,∃css,FL w S 8 r css ys (List.replicate ys.length [])∧kY P w r.n ys.length v css.flatten:=by
  intro B ys hf hr S;simp only[Rd]at hr;obtain⟨a,cap,e1,hle,hr⟩:=hr;simp only[ARF,ARx]at e1;subst e1;rcases hr with hr|⟨b,o,rfl,_,hr⟩
  ·have:ys=[]:=ARH hr
   subst this;exact⟨[],⟨rfl,rfl,by simp,fun i cs y G h=>by simp at h⟩,Qy (css:=[]) rfl (by simp) (.inl rfl)⟩
  ·obtain⟨css,c1,c2,c3,c4⟩:=ou hr
   exact⟨css,FL.flat hf c1 c2 c4,Qy c1 c2 (.inr ⟨b,o,rfl,c3⟩)⟩
 have done:∀{B:Nat→Prop} {ys:List r.D},r.flat=true→Rd w B (.sl r) [v] ys→rows=ys→Qu=bx→d=9→
   1≤d∧ ∃E' F css Fs R,HL E w vw bx G E' Qu F∧F.Perm (List.flatten Fs++R)∧FL w E'.S (d-1) r css rows Fs∧kY P w r.n rows.length v css.flatten:=by
  intro B ys hf hr e1 e2 e3;subst e1 e2 e3;obtain⟨css,k1,k2⟩:=plain hf hr E.S;exact⟨by omega,E,[],css,_,[],HL.refl h,by simp,k1,k2⟩
 unfold nD at e;split at e
 ·rename_i s
  simp only[AMO,APl]at e;obtain⟨rfl,e⟩:=e;have e:=ARM e;simp only[ARK]at e;obtain⟨rfl,rfl,rfl⟩:=e;have Yj:=Xx hv;subst Yj;refine⟨by omega,E,[],s.map fun c=>[Value.int .u8 (c.toNat:Int)],_,[],HL.refl h,?_,FL.flat (B:=fun _=>False) rfl (by simp) (by simp[Ty.n]) (fun i cs y a b=> ?_),?_⟩
  ·simp
  ·simp only[ARa,AMU]at a b
   obtain⟨c1,z1,rfl⟩:=a;obtain⟨c2,z2,rfl⟩:=b;grind[Rd]
  grind[ADG,Ty.n]
 ·rename_i s q ys
  split at e
  ·rename_i hf
   simp only[AMO,APl]at e;obtain⟨rfl,e⟩:=e;have e:=ARM e;simp only[ARK]at e;obtain⟨rfl,rfl,rfl⟩:=e;exact done hf hv rfl rfl rfl
  ·split at e
   case isFalse=>cases e
   rename_i hs;simp only[AMO,APl]at e;obtain⟨rfl,e⟩:=e;have e:=ARM e;simp only[ARK]at e;obtain⟨rfl,rfl,rfl⟩:=e;subst hs;simp only[VR,ARj]at hv;simp only[Rd]at hv;obtain⟨a,cap,e1,hle,hr⟩:=hv;simp only[ARF,ARx]at e1;subst e1;have key:∃css:List (List Value),List.length css=ys.length∧(∀c∈css,c.length=q.n)∧(∀(i:Nat) cs y,css[i]? =some cs→ys[i]? =some y→Rd w E.S q cs y)∧kY P w q.n ys.length (.slice a ys.length cap) css.flatten:=by
    rcases hr with hr|⟨b,o,rfl,_,hr⟩
    ·have:ys=[]:=ARH hr
     subst this;exact⟨[],rfl,by simp,fun i cs y h=>by simp at h,Qy (css:=[]) rfl (by simp) (.inl rfl)⟩
    ·obtain⟨css,c1,c2,c3,c4⟩:=ou hr
     exact⟨css,c1,c2,c4,Qy c1 c2 (.inr ⟨b,o,rfl,c3⟩)⟩
   obtain⟨css,c1,c2,c3,c4⟩:=key;refine⟨AP3 _,E,[],css,List.replicate ys.length [],[],HL.refl h,by simp,⟨c1,by simp,c2,fun i cs y G a b c=> ?_⟩,c4⟩;grind[List.mem_of_getElem?,kv]
 ·rename_i b
  split at e
  case h_2=>cases e
  rename_i d0 q ys hb;split at e
  ·rename_i hf
   simp only[AMO,APl]at e;obtain⟨rfl,e⟩:=e;have e:=ARM e;simp only[ARK]at e;obtain⟨rfl,rfl,rfl⟩:=e;obtain⟨Fs,hB,hS⟩:=h;exact done hf (Zz hw hB hS.st hv (q:=q) (ys:=ys) (by simp[Ng,hb,HE])) rfl rfl rfl
  ·simp only[AMO,APl]at e
   obtain⟨rfl,e⟩:=e;have e:=ARM e;simp only[ARK]at e;obtain⟨rfl,rfl,rfl⟩:=e;obtain⟨F,⟨hd,ho⟩,hB⟩:=h.take hb;have hvw:=YG hw hb;simp only[VR,hvw,DB,AMO]at hv;obtain⟨_,_,_,rfl⟩:=hv;obtain⟨m,rfl⟩:∃m,d0=m+1:=⟨d0-1,by omega⟩;obtain⟨a,cap,css,Fs,R,e1,hle,cC,hp,hcase⟩:=nB ho;refine⟨hd,E,F,css,Fs,R,⟨Le.refl _,by simp,fun n B hn=> ?_,hB⟩,hp,cC,?_⟩
   ·grind
   ·rw[e1]
    refine Qy cC.1 cC.2.2.1 ?_
    grind
 ·rename_i b p _
  split at e
  case h_2=>cases e
  rename_i d0 q ys hb;simp only[AMi]at e;obtain⟨⟨q',zs⟩,e1,e⟩:=e;dsimp only at e;split at e
  case isFalse=>cases e
  rename_i hf;simp only[AMO,APl]at e;obtain⟨rfl,e⟩:=e;have e:=ARM e;simp only[ARK]at e;obtain⟨rfl,rfl,rfl⟩:=e;obtain⟨Fs,hB,hS⟩:=h;exact done hf (Zz hw hB hS.st hv (q:=q') (ys:=zs) (by simp[Ng,hb,e1])) rfl rfl rfl
 ·rename_i b p off n
  split at e
  case h_2=>cases e
  rename_i d0 q ys hb;simp only[AMi]at e;obtain⟨⟨q',zs⟩,e1,e⟩:=e;dsimp only at e;split at e
  case isFalse=>cases e
  rename_i hf;simp only[AMO,APl]at e;obtain⟨rfl,e⟩:=e;have e:=ARM e;simp only[ARK]at e;obtain⟨rfl,rfl,rfl⟩:=e;obtain⟨Fs,hB,hS⟩:=h;exact done hf (Zz hw hB hS.st hv (q:=q') (ys:=(zs.drop off).take n) (by simp[Ng,hb,e1])) rfl rfl rfl
 simp_all
theorem fS{E:Env}{w:World}{vw bx:List Bx}{G:ABH}(h:C7 E w vw bx G)(hw:FM bx vw){x:AV}{v:Value}(hv:VR E w vw x v){r:Ty}{rows:List r.D}{Qu:List Bx}{d:Nat}
  (e:nJ bx x=some ⟨r,rows,Qu,d⟩):1≤d∧ ∃F1 F2,HL E w vw bx G E Qu (F1++F2)∧Ow w E.S d (.sl r) [v] rows F1:=by
 have tk:∀{b d0:Nat} {q:Ty} {ys:List q.D},bx[b]? =some (.sl d0 q ys)→ ∃F,1≤d0∧Ow w E.S d0 (.sl q) [E.IE b] ys F∧HL E w vw bx G E (bx.set b .dead) F:=by
  intro b d0 q ys hb;obtain⟨F,⟨hd,ho⟩,hB⟩:=h.take hb;refine⟨F,hd,ho,⟨Le.refl _,by simp,fun n B hn=> ?_,hB⟩⟩;grind
 unfold nJ at e;split at e
 ·rename_i b
  split at e
  case h_2=>cases e
  rename_i d0 q ys hb;simp only[AMO,APl]at e;obtain⟨rfl,e⟩:=e;have e:=ARM e;simp only[ARK]at e;obtain⟨rfl,rfl,rfl⟩:=e;obtain⟨F,hd,ho,hT⟩:=tk hb;have hvw:=YG hw hb;simp only[VR,hvw,DB,AMO]at hv;obtain⟨_,_,_,rfl⟩:=hv;exact⟨hd,F,[],by simp_all,ho⟩
 ·rename_i b off n
  split at e
  case h_2=>cases e
  rename_i d0 q ys hb;simp only[AMO,APl]at e;obtain⟨rfl,e⟩:=e;have e:=ARM e;simp only[ARK]at e;obtain⟨rfl,rfl,rfl⟩:=e;obtain⟨F,hd,ho,hT⟩:=tk hb;have hvw:=YG hw hb;simp only[VR,hvw,DB,AMO]at hv;obtain⟨_,_,q',zs,a,len,cap,h1,h2,h3,rfl⟩:=hv;simp only[HE,AMO,APl]at h1;obtain⟨rfl,h1⟩:=h1;obtain rfl:=ARM h1;rw[h3]at ho;obtain⟨m,rfl⟩:∃m,d0=m+1:=⟨d0-1,by omega⟩;obtain⟨F1,F2,hp,wW⟩:=ADn ho h2;exact⟨hd,F1,F2,⟨hT.le,hT.len,hT.within,hT.boxes.perm (ATE _ hp)⟩,wW⟩
 simp_all
end Go.Fw
end
section
namespace Go.Fw
theorem fJ{P:Program}{w:World}{a:Option Addr}{n cap size:Nat}{css:List (List Value)}(hl:css.length=n)(hc:∀c∈css,c.length=size)
  (h:n=0∨ ∃b o,a=some ⟨b,o,none⟩∧Bb w b o css.flatten):∀w',w'.heap=w.heap→(Builtin.firstCells size n (.slice a n cap)).run P w' = .ok css.flatten.toArray w':=
 (Qy (P:=P) (cap:=cap) hl hc h).cells
theorem ZH{z:Array Value}{n:Nat}:(Builtin.zeroCells z n).size=n*z.size:=size_zeroCells z n
section
variable{Y:Type} {P:Program} {T:J0} (hT:Ei P T) {o:Oper} {E:Env} {σ:St} {a:Act} {w:World} {k:K Y} {y:Y}
include hT
theorem lu(h:Rel E σ a w){E2:Env}{aU:List Bx}{F Fd R:ABH}{t u ty:TypeId}{ts:Array TypeId}(vk:ts[0]? =some t)(vn:ts[1]? =some u)
  (hu:(∃e,P.underlying u=some (.slice e))∨P.underlying u=some .string) {m:Nat} {r:Ty} (Us:T.Nl t r=true)
  (kT:HL E w σ.bx σ.bx [] E2 aU F) {v1 v2:Value} {drows Sf:List r.D} {css:List (List Value)} {Fs:List ABH}
  (ho:Ow w E2.S (m+1) (.sl r) [v1] drows Fd) (hs:FL w E2.S m r css Sf Fs) (hn:kY P w r.n Sf.length v2 css.flatten) (hp:F.Perm (Fd++Fs.flatten++R)) (X9:drows.length+Sf.length≤DF):
  ∃v w' E',(Builtin.append_ ts ty #[v1,v2]).run P w= .ok v w'∧Rel E' { σ with bx:=aU++[.sl (m+1) r (drows++Sf)] } a w'∧Rg [] E σ.bx w E' (aU++[.sl (m+1) r (drows++Sf)]) w'∧
   XR E' w' (aU++[.sl (m+1) r (drows++Sf)]) (.c (.ref aU.length [])) v:=by
 obtain⟨e,ti,hut,VC,hs1,hby,hrow⟩:=Kp hT Us;obtain⟨i,z,i1,i2,i3,i4,i5,hg⟩:=Wp hT VC hrow;rw[hs1]at i2;obtain⟨Fs0,hB1,X6⟩:=kT.boxes;simp only[AN8]at X6;have hdF:∀c∈Fd,c∈F:=fun c hc=>hp.mem_iff.2 (by simp[hc])
 have hsF:∀c∈Fs.flatten,c∈F:=fun c hc=>hp.mem_iff.2 (by simp_all)
 have ndF:=(AP2.1 (hp.nodup_iff.1 (AP2.1 X6.nodup).2.1)).1;have ltF:∀c∈F,c<w.heap.size:=fun c hc=>X6.lt c (by simp_all)
 have Aa5:∀c∈F,¬E2.S c:=fun c hc hS=>X6.free c (by simp_all) (X6.st c hS)
 have ho0:=ho;obtain⟨ad,cap,dcss,Fs1,R1,rfl,hle,hd,hp1,hcase⟩:=nB ho;have ZF:css.flatten.length=Sf.length*r.n:=by rw[IB hs.2.2.1,hs.1]
 have zu:dcss.flatten.length=drows.length*r.n:=by rw[IB hd.2.2.1,hd.1]
 by_cases TH:drows.length+Sf.length≤cap
 ·rcases hcase with⟨h0,hF0⟩|⟨b,of,arr,ty0,fr,rfl,hb,Pe,hunf,rfl,hc⟩
  ·
   have hd0:drows=[]:=ARH (by omega);have hs0:Sf=[]:=ARH (by omega);subst hd0 hs0;have hc0:css=[]:=ARH hs.1;subst hc0 h0;have ko:=mh (P:=P) (w:=w) (ty:=ty) vk vn hut hu i1 i2 (a:=ad) (x:=v2) (by simp_all);obtain⟨r1,r2,r3⟩:=T0 h kT (w':=w) (d:=m+1) (by omega) ho0 (fun c hc=> .inl (hdF c hc)) (AP2.1 ndF).1 (fun c hc=>ltF c (hdF c hc)) (fun _ _ _=>rfl) ⟨rfl,rfl,rfl,AP3 _⟩;grind
  ·
   have d_:of+drows.length*r.n+css.flatten.length≤arr.size:=by
    have:(drows.length+Sf.length)*r.n≤cap*r.n:=AQY _ TH;grind
   have ko:=fV (P:=P) (w:=w) (ty:=ty) vk vn hut hu i1 i2 (b:=b) (o:=of) hn TH (U6 hb d_ hunf) hs.one;have hbF:b∈F:=hdF b (by simp);have ax:∀c,c∈Fs1.flatten∨c∈Fs.flatten∨E2.S c→c≠b:=by
    grind
   have dX:∀c,c≠b→(w.setCells b (of+drows.length*r.n) css.flatten).heap[c]? =w.heap[c]?:=fun c hc=>DQ _ _ _ _ _ hc
   have vY:=hd.mono (w':=w.setCells b (of+drows.length*r.n) css.flatten) (S':=E2.S) (fun _ h=>h) (fun c hc=>dX c (ax c (.inr (.inr hc)))) (fun c hc=>dX c (ax c (.inl hc)));have y7:=hs.mono (w':=w.setCells b (of+drows.length*r.n) css.flatten) (S':=E2.S) (fun _ h=>h) (fun c hc=>dX c (ax c (.inr (.inr hc)))) (fun c hc=>dX c (ax c (.inr (.inl hc))));have fj:=vY.append y7;have AB2:Bb (w.setCells b (of+drows.length*r.n) css.flatten) b of (dcss++css).flatten:=by
    grind[List.flatten_append,Bb.append,UR,Ol]
   have how:Ow (w.setCells b (of+drows.length*r.n) css.flatten) E2.S (m+1) (.sl r) [.slice (some ⟨b,of,none⟩) (drows.length+Sf.length) cap] (drows++Sf) (b::(Fs1++Fs).flatten):=by
    simp only[Ow];refine⟨_,cap,by rw[AOq],by simp_all,.inr ⟨b,of,_,ty0,fr,Fs1++Fs,rfl,Ff _ _ _ _ _ _ _ hb,by rw[Fg];omega,by rw[Fg];omega,rfl,fj.2.1,fun j q G hq hG=> ?_⟩⟩;have hj:=(AMX.1 hq).1;have h1:=fj.1;have wT:j<(dcss++css).length:=by omega
    refine⟨(dcss++css)[j],fj.2.2.1 _ (AM3 _),fun x u hx=> ?_,fj.2.2.2 j _ _ _ (AMJ wT) hq hG⟩;have hxl:=(AMX.1 hx).1;rw[fj.2.2.1 _ (AM3 _)]at hxl;have:=Yb (n:=r.n) (css:=dcss++css) (ex:=[]) (i:=j) fj.2.2.1 (AMJ wT) hxl;rw[AN8,hx]at this;have:=AB2 _ _ this;grind
   have oP:(b::(Fs1++Fs).flatten)=(b::Fs1.flatten)++Fs.flatten:=by simp
   rw[oP]at how;obtain⟨r1,r2,r3⟩:=T0 h kT (w':=w.setCells b (of+drows.length*r.n) css.flatten) (d:=m+1) (by omega) how (fun c hc=> .inl ((APr.1 hc).elim (hdF c) (hsF c))) ndF
    (fun c hc=>by grind[DY]) (fun c hc hcF=>dX c (fun e=>hcF (e▸hbF))) (CA _ _ _ _)
   grind
 ·
  have hold:drows.length=0∨ ∃b o,ad=some ⟨b,o,none⟩∧Bb w b o dcss.flatten:=by
   grind
  have ko:=bw (P:=P) (w:=w) (ty:=ty) vk vn hut hu i1 i4 i2 (fJ (P:=P) (cap:=cap) hd.1 hd.2.2.1 hold) hn (by omega) X9 (by omega);have wP:=grownCap_ge w (drows.length+Sf.length) cap e
  generalize hgc:grownCap w (drows.length+Sf.length) cap e=gc at ko wP
  let arr:Array Value:=dcss.flatten.toArray++css.flatten.toArray++Builtin.zeroCells z.cells (gc-(drows.length+Sf.length))
  have cT:arr.toList=(dcss++css).flatten++(Builtin.zeroCells z.cells (gc-(drows.length+Sf.length))).toList:=by simp[arr]
  have hzl:z.cells.size=r.n:=by rw[←ATy,i5,Gz]
  have AXn:arr.size=gc*r.n:=by
   simp only[arr,AWO,AWP,ZH,hzl,ZF,zu,←ARz];simp_all
  let w':=w.drew.alloc (.cells arr e)
  have new:w'.heap[w.heap.size]? =some (.cells arr e):=by
   show(w.heap.push (.cells arr e))[w.heap.size]? =_
   simp
  have ABw:∀c,c<w.heap.size→w'.heap[c]? =w.heap[c]?:=fun c hc=>I4 (w:=w) (o:= .cells arr e) hc
  have hR1:∀c∈Fs1.flatten,c∈Fd:=fun c hc=>hp1.mem_iff.2 (by simp_all)
  have vY:=hd.mono (w':=w') (S':=E2.S) (fun _ h=>h) (fun c hc=>ABw c (X6.cf c (X6.st c hc))) (fun c hc=>ABw c (ltF c (hdF c (hR1 c hc))));have y7:=hs.mono (w':=w') (S':=E2.S) (fun _ h=>h) (fun c hc=>ABw c (X6.cf c (X6.st c hc))) (fun c hc=>ABw c (ltF c (hsF c hc)));have fj:=vY.append y7;have how:Ow w' E2.S (m+1) (.sl r) [.slice (some ⟨w.heap.size,0,none⟩) (drows++Sf).length gc] (drows++Sf) (w.heap.size::(Fs1++Fs).flatten):=
   ck new cT fj.1 (by simp_all) (by omega) (Wt _) fj.2.1 fj.2.2.2
  rw[AOq]at how;have UI:∀c∈(Fs1++Fs).flatten,c∈Fd++Fs.flatten:=by
   grind
  have nd1:(Fs1++Fs).flatten.Nodup:=by
   grind
  have AeJ:∀c∈(Fs1++Fs).flatten,c∈F:=fun c hc=>(APr.1 (UI c hc)).elim (hdF c) (hsF c)
  obtain⟨r1,r2,r3⟩:=T0 h kT (w':=w') (d:=m+1) (by omega) how (by
    simp_all) (by
    grind) (by
    grind) (fun c hc _=>ABw c hc) ⟨rfl,rfl,rfl,by simp[w']⟩
  grind
end
end Go.Fw
end
section
namespace Go.Fw
theorem Xi{α β:Type}{args:Array α}{f:α→β}{x y:β}(h:args.toList.map f=[x,y]):∃a b,args= #[a,b]∧f a=x∧f b=y:=by
 obtain⟨l⟩:=args
 match l,h with
 |[a,b],h=>grind
theorem XJ{α β:Type}{args:Array α}{f:α→β}{x:β}(h:args.toList.map f=[x]):∃a,args= #[a]∧f a=x:=by
 obtain⟨l⟩:=args;simp_all
section
variable{Y:Type} {P:Program} {T:J0} (hT:Ei P T) {o:Oper} {E:Env} {σ:St} {a:Act} {w:World} {k:K Y} {y:Y}
include hT
theorem vu(h:Rel E σ a w){c:Call}{x1 x2:XV}(ho:o.op= .call c)(hc:c.callee= .builtin .append)(Ie:c.args.toList.map σ.ev=[x1,x2])(e:eI T c.argTypes σ x1 x2 k=some y):L7 P o E σ a w k y:=by
 obtain⟨o1,o2,hargs',rfl,rfl⟩:=Xi Ie;have bc:=h.ev o1;have aS:=h.ev o2;have exec:∀{v w'},(Builtin.append_ c.argTypes o.type #[a.eval o1,a.eval o2]).run P w= .ok v w'→(execOp a.eval o).run P w= .ok (.value v) w':=by
  intro v w' hr;simp only[execOp,ho,resolve,hc,hargs',invoke,builtin,Sem.run_bind,Sem.run_pure,Result.andThen_ok,List.map_toArray,AR9,AU6,hr]
 unfold eI at e;split at e
 case h_2=>cases e
 rename_i t u vk vn;split at e
 case isFalse=>cases e
 rename_i hu;have hu':(∃e,P.underlying u=some (.slice e))∨P.underlying u=some .string:=by
  rw[ARt]at hu;grind[js,Xk]
 split at e
 ·
  rename_i z hz1 hz2;rw[hz1]at bc;rw[hz2]at aS;simp only[AMi]at e;obtain⟨⟨r,rows,Qu,d⟩,e1,e⟩:=e;dsimp only at e;split at e
  case isFalse=>cases e
  rename_i Us;split at e
  case isFalse=>cases e
  rename_i X9;obtain⟨hd,E',F,css,Fs,R,kT,hp,hs,hn⟩:=fR (P:=P) h.bx (FM.refl _) aS e1;obtain⟨m,rfl⟩:∃m,d=m+1:=⟨d-1,by omega⟩;have AYi:a.eval o1= .slice none 0 0:=bc;obtain⟨v,w',E3,hr,r1,r2,r3⟩:=lu hT h (ty:=o.type) vk vn hu' Us kT (v1:= .slice none 0 0) (Fd:=[]) (drows:=[]) pZ hs hn (R:=R) (by simp_all) (by simp_all);rw[←AYi]at hr;simp only[AQU]at r1 r3;exact⟨_,_,_,_,_,.inl (exec hr),r1,r3,r2.any,rfl,e⟩
 ·rename_i z1 z2 hnn hz1 hz2
  rw[hz1]at bc;rw[hz2]at aS;simp only[AMi]at e;obtain⟨⟨r,rows,jX,d⟩,e1,e⟩:=e;dsimp only at e;split at e
  case isFalse=>cases e
  rename_i Us;simp only[AMi]at e;obtain⟨⟨q,srows0,aU,ds⟩,e2,Sf,e3,e⟩:=e;dsimp only at e e3;obtain⟨hqr,e4⟩:=IW e3;subst hqr;subst e4;dsimp only at e;split at e
  case isFalse=>cases e
  rename_i X9;obtain⟨hd,F1,F2,k1,ho1⟩:=fS h.bx (FM.refl _) bc e1;obtain⟨hds,E',F3,css,Fs,R,k2,hp,hs,hn⟩:=fR (P:=P) k1.boxes ((FM.refl _).pN k1) aS e2;obtain⟨m,hm⟩:∃m,min d ds=m+1:=⟨min d ds-1,by omega⟩;rw[hm]at e;obtain⟨A,W1,p1,ho1'⟩:=KU (d:=m+1) (by omega) ho1;obtain⟨Gs,W2,p2,y7⟩:=hs.weaken (d':=m) (by omega);have hB:=k2.boxes.perm (G':=(A++Gs.flatten++(R++F2))++(W1++W2)++[]) (by
   grind)
  obtain⟨hle,X6⟩:=hB.share;have kT:HL E w σ.bx σ.bx [] _ aU (A++Gs.flatten++(R++F2)):=⟨(k1.le.trans k2.le).trans hle,k2.len.trans k1.len,fun b B hb=>(k2.within b B hb).elim .inl (k1.within b B),X6⟩;have ho2:Ow w (fun c=>E'.S c∨c∈W1++W2) (m+1) (.sl q) [a.eval o1] rows A:=
   EU (fun c hc=>hc.imp (k2.le.S c) (by simp_all)) (fun _ _=>rfl) (fun _ _=>rfl) ho1'
  have hs2:FL w (fun c=>E'.S c∨c∈W1++W2) m q css srows0 Gs:=y7.mono (fun c hc=>hc.imp id (by simp_all)) (fun _ _=>rfl) (fun _ _=>rfl);obtain⟨v,w',E3,hr,r1,r2,r3⟩:=lu hT h (ty:=o.type) vk vn hu' Us kT ho2 hs2 hn (AWb _) X9;exact⟨_,_,_,_,_,.inl (exec hr),r1,r3,r2.any,rfl,e⟩
 simp_all
end
end Go.Fw
end
section
namespace Go.Fw
theorem mF{P:Program}{w:World}{b o:Nat}{ty:TypeId}{v:Value}(ht:w.there b o v.cells.toList.length)(hi:(P.info? ty).map (·.size)=some v.cells.toList.length)(h1:∀u∈v.cells.toList,u.oneCell' =true):
  (Instr.storeAt ty (.pointer (some ⟨b,o,none⟩)) v).run P w= .ok () (w.setCells b o v.cells.toList):=by
 have:=run_storeCells_cells (P:=P) b o v.cells.toList 0 w (fun j hj=>by simpa using(ht j hj).1) (fun j hj=>by simpa using(ht j hj).2) h1;cases hq:P.info? ty with
 |none=>simp_all
 |some i=>
  have hs:v.cells.size=i.size:=by simp_all
  simp only[ASI]at this;simp[Instr.storeAt,Instr.sureAddr,storeVar,sizeOf,typeInfo,hq,hs,this]
theorem bD{E E1 E':Env}{w w':World}{vw jX Qu:List Bx}{F:ABH}(b0:Nat)(k:HL E w vw vw [] E1 jX F)(st:∀c,E.S c→E.T c)(hlen:vw.length≤Qu.length)
  (uB:∀b d r rows,b≠b0→b<vw.length→Qu[b]? =some (.sl d r rows)→jX[b]? =some (.sl d r rows)) (ADD:∀b,b<vw.length→E'.ID b=E1.ID b) (mg:∀b,b<vw.length→E'.IE b=E1.IE b) (hT:E'.T=E1.T) (hS:E'.S=E1.S)
  (hw:∀c,c<w.heap.size→c∉F→w'.heap[c]? =w.heap[c]?)
  (h0:∀d r rows,Qu[b0]? =some (.sl d r rows)→ ∃d0 Ro,vw[b0]? =some (.sl d0 r Ro)∧
   ∀p,DG r Ro p→ ∀q ys,HE r Ro p=some ⟨q,ys⟩→DG r rows p∧(∃uC,HE r rows p=some ⟨q,uC⟩∧List.length uC=List.length ys)∧
    ∀h,JB w (E.IE b0) p=some h→JB w' (E'.IE b0) p=some h):TF E w vw E' w' Qu:=by
 have hB:=k.boxes;obtain⟨Fs,⟨h1,h2⟩,h3⟩:=hB;simp only[AN8]at h3;have wS:∀c,E1.T c→w'.heap[c]? =w.heap[c]?:=fun c hc=>hw c (h3.cf c hc) fun hf=>h3.free c (by simp[hf]) hc
 refine⟨hlen,fun b hb=>by rw[ADD b hb,k.le.ID],fun c hc=>by rw[hT];exact k.le.T c hc,fun c hc=>by rw[hS];exact k.le.S c hc,st,fun c hc=>wS c (k.le.T c hc),fun b d r rows hb e=> ?_⟩;by_cases hb0:b=b0
 ·simp_all
 have e1:=uB b _ _ _ hb0 hb e;rcases k.within b _ e1 with e2|e2
 ·cases e2
 ·refine⟨d,rows,e2,fun p hp q ys hg=>⟨hp,⟨ys,hg,rfl⟩,fun h' hh=> ?_⟩⟩
  have hF:Fs[b]? =some (Fs[b]'(by grind)):=AMJ _;obtain⟨hd,ho⟩:=h2 b _ _ e1 hF;rw[mg b hb];rw[←k.le.IE]at hh;refine sK ho (fun c hc=>wS c (h3.st c hc)) (fun c hc=> ?_) hp hg hh;have UI:c∈Fs.flatten:=ARc.2 ⟨_,AQq hF,hc⟩;exact hw c (h3.lt c (by simp[UI])) fun hf=>(AP2.1 h3.nodup).2.2 c UI c hf rfl
def Bx.map(f:AV→AV):Bx→Bx
 | .mem cs=> .mem (cs.map f)
 |B=>B
theorem C7.AU0{E E':Env}{w w':World}{vw vw' bx:List Bx}{G:ABH}(f:AV→AV)(h:C7 E w vw bx G)(k:∀x v,VR E w vw x v→VR E' w' vw' (f x) v)
  (hS:∀c,E.S c→E'.S c) (ADD:∀b,b<bx.length→E'.ID b=E.ID b) (mg:∀b,b<bx.length→E'.IE b=E.IE b)
  (hw:∀c,(E.S c∨(¬E.T c∧c∉G))→c<w.heap.size→w'.heap[c]? =w.heap[c]?)
  (AEM:∀F,Sep E w (F++G)→Sep E' w' (F++G)):C7 E' w' vw' (bx.map (Bx.map f)) G:=by
 obtain⟨Fs,⟨hl,h1⟩,h2⟩:=h;refine⟨Fs,⟨by simp_all,fun n B F hn hF=> ?_⟩,AEM _ h2⟩;rw[ARa,AMU]at hn;obtain⟨B,hn,rfl⟩:=hn;have FW:=(AMX.1 hn).1;have h3:=h1 n B F hn hF;have APw:∀c∈F,c∈Fs.flatten:=fun c hc=>ARc.2 ⟨F,AQq hF,hc⟩
 have hFw:∀c∈F,w'.heap[c]? =w.heap[c]?:=fun c hc=>hw c (.inr ⟨h2.free c (by simp_all),fun hg=>by
  have:=(AP2.1 h2.nodup).2.2 c (APw c hc) c hg;omega⟩) (h2.lt c (by simp_all))
 have rG:∀c,E.S c→w'.heap[c]? =w.heap[c]?:=fun c hc=>hw c (.inl hc) (h2.cf c (h2.st c hc))
 cases B with
 |mem cs=>
  obtain⟨rfl,arr,ty,fr,ha,hu,hv⟩:=h3;refine⟨by simp_all,arr,ty,fr,?_,hu,CX.MA f k hv⟩;simp_all
 |sl d r rows=>
  obtain⟨hd,ho⟩:=h3;refine⟨hd,?_⟩;grind[EU]
 |dead=>exact h3
theorem Bx.map_id:∀B:Bx,Bx.map id B=B
 | .mem cs=>by simp[Bx.map]
 | .sl _ _ _=>rfl
 | .dead=>rfl
theorem aR(bx:List Bx):bx.map (Bx.map id)=bx:=by
 induction bx with
 |nil=>rfl
 |cons B l ih=>simp[ih,Bx.map_id]
theorem lq(b:Nat)(bx:List Bx):bx.map (zR b)=bx.map (Bx.map (J3 b)):=by
 rfl
theorem AA0{E:Env}{σ:St}{a:Act}{w:World}(h:Rel E σ a w){b j:Nat}{cs dL:List AV}(hb:σ.bx[b]? =some (.mem cs)){xs:List AV}{vs:List Value}(hx:iy E w σ.bx xs vs)(ax:xs≠[])
  (e:W7 cs j xs=some dL):
  w.there (E.ID b) j vs.length∧Rel E { σ with bx:=σ.bx.set b (.mem dL) } a (w.setCells (E.ID b) j vs)∧Rg [b] E σ.bx w E (σ.bx.set b (.mem dL)) (w.setCells (E.ID b) j vs):=by
 have st:=h.bx.st;obtain⟨F,⟨rfl,arr,ty,fr,ha,hu,hv⟩,hB⟩:=h.bx.take hb;simp only[AN8]at hB;have FW:=(AMX.1 hb).1;rcases XD hv hx e with⟨h1,h2⟩|⟨h1,_⟩
 case inr=>simp_all
 have d_:j+vs.length≤arr.size:=by
  have l1:=CX.len hv;have l2:=CX.len hx;simp_all
 have bm: ¬E.T (E.ID b):=hB.AEc _ (by simp);have hB0:=hB;have dX:∀c,c≠E.ID b→(w.setCells (E.ID b) j vs).heap[c]? =w.heap[c]?:=fun c hc=>DQ _ _ _ _ _ hc
 have hw:∀c,c<w.heap.size→c∉[E.ID b]→(w.setCells (E.ID b) j vs).heap[c]? =w.heap[c]?:=fun c _ hc=>dX c (by simp_all)
 have kT:HL E w σ.bx σ.bx [] E (σ.bx.set b .dead) [E.ID b]:=⟨Le.refl _,by simp,fun n B hn=>by
  grind,by simp_all⟩
 have keep:TF E w σ.bx E (w.setCells (E.ID b) j vs) (σ.bx.set b (.mem dL)):=bD b kT st (by simp) (fun n d r rows hn _ hq=>by
   grind) (fun _ _=>rfl) (fun _ _=>rfl) rfl rfl hw (fun d r rows hq=>by
   simp_all)
 refine⟨U6 ha d_ hu,⟨h.N8,h.tm.imp fun _ _ hq=>PC keep hq,?_⟩,⟨⟨fun _ h=>h,fun _ h=>h,fun _ h=> .inl h,fun _ h=> .inl h,fun c hc=>dX c (fun e=>bm (e▸hc)),(CA _ _ _ _).os,(CA _ _ _ _).tape,(CA _ _ _ _).output,(CA _ _ _ _).size⟩,by simp,fun _ _=>⟨rfl,rfl⟩,fun n hn=>by
  grind,fun n B B' qO hB T3 xu=>by
  simp at qO;rw[ARd (fun e=>qO e.symm),hB]at T3;cases T3;refine⟨Vf.refl xu,fun c hc=>dX c (fun e=> ?_)⟩;obtain⟨Fs,⟨f1,f2⟩,f3⟩:=hB0;have X6:(σ.bx.set b .dead)[n]? =some B:=by grind
  have hF:Fs[n]? =some (Fs[n]'(by grind)):=AMJ _;rcases eO (f2 n B _ X6 hF) hc with hs|hs
  ·simp_all
  ·exact(AP2.1 f3.nodup).2.2 c (ARc.2 ⟨_,AQq hF,hs⟩) (E.ID b) (by simp) e⟩⟩
 have hT:=hB.turn (E':=E) (w':=w.setCells (E.ID b) j vs) (vw':=σ.bx.set b (.mem dL)) (fun x v hq=>GU keep hq) (fun _ h=>h) (fun _ _=>rfl) (fun _ _=>rfl) (fun c hc _=>dX c (fun e=>by
   simp_all)) (fun F hF=>⟨hF.nodup,hF.free,fun c hc=>by rw[DY];exact hF.lt c hc,hF.st,fun c hc=>by rw[DY];exact hF.cf c hc⟩)
 have:=C7.put (b:=b) (B:= .mem dL) (F:=[E.ID b]) (G:=[]) (by simpa using hT) (by simp_all) ⟨rfl,FK arr j vs,ty,fr,Ff _ _ _ _ _ _ _ ha,by rw[Fg];omega,h1.imp fun _ _ hq=>GU keep hq⟩;simp_all
theorem XE:∀{r:Ty} {j j':Nat} {x:r.D} {t:Ty} {y:t.D} {x':r.D},Dz r j x t y=some x'→j'≠j→BN r j' x' =BN r j' x
 | .cons c r,0,j',x,t,y,x',e,hj=>by
  simp only[Dz]at e;split at e
  ·rename_i h
   subst h;simp only[AMO]at e;subst e;cases j' with
   |zero=>omega
   |succ j' =>rfl
  simp_all
 | .cons c r,j+1,j',x,t,y,x',e,hj=>by
  simp only[Dz,AMU]at e;obtain⟨z,e1,rfl⟩:=e;cases j' with
  |zero=>rfl
  |succ j' =>
   simp only[BN];exact XE e1 (by omega)
 | .unit,_,_,_,_,_,_,e,_=>by rfl
 | .int k,0,j',x,t,y,x',e,hj=>by cases j' with
  |zero=>omega
  |succ j' =>rfl
 | .bool,0,j',x,t,y,x',e,hj=>by cases j' with
  |zero=>omega
  |succ j' =>rfl
 | .str,0,j',x,t,y,x',e,hj=>by cases j' with
  |zero=>omega
  |succ j' =>rfl
 | .sl _,0,j',x,t,y,x',e,hj=>by cases j' with
  |zero=>omega
  |succ j' =>rfl
 | .int _,_+1,_,_,_,_,_,e,_=>by simp[Dz]at e
 | .bool,_+1,_,_,_,_,_,e,_=>by simp[Dz]at e
 | .str,_+1,_,_,_,_,_,e,_=>by simp[Dz]at e
 | .sl _,_+1,_,_,_,_,_,e,_=>by simp[Dz]at e
theorem U9:∀{r:Ty} {j:Nat} {x:r.D} {t:Ty} {y:t.D} {x':r.D},Dz r j x t y=some x'→BN r j x' =some ⟨t,y⟩∧ ∃y0:t.D,BN r j x=some ⟨t,y0⟩
 | .cons c r,0,x,t,y,x',e=>by
  simp only[Dz]at e;split at e
  ·rename_i h
   subst h;simp only[AMO]at e;subst e;exact⟨rfl,_,rfl⟩
  simp_all
 | .cons c r,j+1,x,t,y,x',e=>by
  simp only[Dz,AMU]at e;obtain⟨z,e1,rfl⟩:=e;simp only[BN];exact U9 e1
 | .unit,_,_,_,_,_,e=>by simp[Dz]at e
 | .int k,0,x,t,y,x',e=>by
  simp only[Dz]at e;split at e
  ·rename_i h;subst h;cases e;exact⟨rfl,_,rfl⟩
  simp_all
 | .bool,0,x,t,y,x',e=>by
  simp only[Dz]at e;split at e
  ·rename_i h;subst h;cases e;exact⟨rfl,_,rfl⟩
  simp_all
 | .str,0,x,t,y,x',e=>by
  simp only[Dz]at e;split at e
  ·rename_i h;subst h;cases e;exact⟨rfl,_,rfl⟩
  simp_all
 | .sl _,0,x,t,y,x',e=>by
  simp only[Dz]at e;split at e
  ·rename_i h;subst h;cases e;exact⟨rfl,_,rfl⟩
  simp_all
 | .int _,_+1,_,_,_,_,e=>by simp[Dz]at e
 | .bool,_+1,_,_,_,_,e=>by simp[Dz]at e
 | .str,_+1,_,_,_,_,e=>by simp[Dz]at e
 | .sl _,_+1,_,_,_,_,e=>by simp[Dz]at e
theorem kI{r:Ty}{rows:List r.D}{i k:Nat}{x:r.D}(hi:i<rows.length):rowAt r (rows.set i x) k=if k=i then x else rowAt r rows k:=by
 unfold rowAt;grind
theorem qF:∀{p:List Wo} {r:Ty} {rows Cz:List r.D} {q:Ty} {ys uC:List q.D},HE r rows p=some ⟨q,ys⟩→uC.length=ys.length→pA r rows p q uC=some Cz→Cz.length=rows.length
 |[],r,rows,Cz,q,ys,uC,h1,h2,h3=>by
  simp only[HE,AMO,APl]at h1;obtain⟨rfl,h1⟩:=h1;obtain rfl:=ARM h1;simp only[pA,AWR,RM,AMO]at h3;simp_all
 |s::p,r,rows,Cz,q,ys,uC,h1,h2,h3=>by
  simp only[pA]at h3;split at h3
  ·simp only[AMi,AMU]at h3
   grind
  simp_all
theorem lC{t:Ty}(ht:t.scalar=true){y:t.D}{q:Ty}{i j:Nat}:∀{p':List Wo} {r:Ty} {rows Cz:List r.D} {p:List Wo} {ys:List q.D} {Zx:q.D},DG r rows p→HE r rows p=some ⟨q,ys⟩→i<ys.length→
  Dz q j (rowAt q ys i) t y=some Zx→pA r rows p q (ys.set i Zx)=some Cz→DG r rows p'→ ∀q' zs,HE r rows p' =some ⟨q',zs⟩→
   DG r Cz p'∧ ∃zs',HE r Cz p' =some ⟨q',zs'⟩∧List.length zs' =List.length zs
 |[],r,rows,Cz,p,ys,Zx,_,hg,hi,hc,hs,_,q',zs,vW=>by
  simp only[HE,AMO,APl]at vW;obtain⟨rfl,vW⟩:=vW;obtain rfl:=ARM vW;exact⟨by simp[DG],Cz,by rfl,qF hg (by simp) hs⟩
 |s'::p',r,rows,Cz,p,ys,Zx,hp,hg,hi,hc,hs,hp',q',zs,vW=>by
  have hlen:=qF hg (by simp) hs;simp only[DG]at hp'⊢;obtain⟨g1,g2,g3⟩:=hp';simp only[HE]at vW⊢;split at vW
  case h_2=>cases vW
  rename_i q0 x0 fg;rw[fg]at g3;dsimp only at g3;have key:∃x1,BN r s'.j (rowAt r Cz s'.i)=some ⟨.sl q0,x1⟩∧DG q0 x1 p'∧ ∃zs',HE q0 x1 p' =some ⟨q',zs'⟩∧List.length zs' =List.length zs:=by
   have same:BN r s'.j (rowAt r Cz s'.i)=some ⟨.sl q0,x0⟩→ ∃x1,BN r s'.j (rowAt r Cz s'.i)=some ⟨.sl q0,x1⟩∧DG q0 x1 p'∧ ∃zs',HE q0 x1 p' =some ⟨q',zs'⟩∧List.length zs' =List.length zs:=
    fun h=>⟨x0,h,g3,zs,vW,rfl⟩
   cases p with
   |nil=>
    simp only[HE,AMO,APl]at hg;obtain⟨rfl,hg⟩:=hg;obtain rfl:=ARM hg;simp only[pA,AWR,RM,AMO]at hs;subst hs;apply same;rw[kI hi];split
    ·rename_i e
     subst e;by_cases ej:s'.j=j
     ·obtain⟨_,y0,h0⟩:=U9 hc
      rw[ej,h0]at fg;simp only[AMO,APl]at fg;obtain⟨rfl,_⟩:=fg;simp[Ty.scalar]at ht
     grind[XE]
    omega
   |cons s p=>
    simp only[DG]at hp;obtain⟨k1,k2,k3⟩:=hp;simp only[HE]at hg;split at hg
    case h_2=>cases hg
    rename_i r' x hcx;rw[hcx]at k3;dsimp only at k3;simp only[pA,hcx,AMi,AMU]at hs;obtain⟨x',hs1,row2,hs2,rfl⟩:=hs;rw[kI k1];rw[kI k1]at same;split
    ·rename_i e
     rw[AME e]at same;rw[e]at fg;by_cases ej:s'.j=s.j
     ·rw[ej]at fg⊢
      rw[hcx]at fg;simp only[AMO,APl,Ty.sl.injEq]at fg;obtain⟨rfl,fg⟩:=fg;obtain rfl:=ARM fg;obtain⟨m1,m2⟩:=lC ht k3 hg hi hc hs1 g3 q' zs vW;grind[U9]
     grind[XE]
    simp_all
  grind
theorem sE{w w':World}{B:Nat→Prop}(Zu:∀A,w'.cell? A=w.cell? A∨ ∃v,w'.cell? A=some v∧isSlice v=false):∀{p:List Wo} {r:Ty} {h:Value} {rows:List r.D} {hh:Value},
  Rd w' B (.sl r) [h] rows→DG r rows p→JB w h p=some hh→JB w' h p=some hh
 |[],_,h,_,hh,_,_,e=>by grind[DB]
 |s::p,r,h,rows,hh,hr,hp,e=>by
  simp only[DG]at hp;obtain⟨hi,Pe,hp⟩:=hp;simp only[Rd]at hr;obtain⟨a,cap,e1,_,hr⟩:=hr;obtain rfl:=(List.cons.inj e1).1;rcases hr with hr|⟨b,o,rfl,hb,hr⟩
  ·omega
  obtain⟨cs,hl,hc,hrow⟩:=hr s.i _ (RO hi);split at hp
  case h_2=>exact hp.elim
  rename_i q x fg;obtain⟨v,hv,hrv⟩:=eL hrow fg;have hcv:=hc _ _ hv;rw[←Pe]at hcv;simp only[JB]at e⊢;split at e
  case h_2=>cases e
  rename_i v0 hv0;rcases Zu ⟨b,o+s.i*s.sz+s.j,none⟩with h1|⟨u,h1,h2⟩
  ·rw[h1,hv0]
   rw[h1,hv0]at hcv;cases hcv;exact sE Zu hrv hp e
  ·rw[hcv]at h1
   cases h1;simp only[Rd]at hrv;obtain⟨_,_,e2,_⟩:=hrv;simp only[ARF,ARx]at e2;grind[isSlice]
theorem AC5{E E':Env}{w w':World}{vw vw':List Bx}{b d d':Nat}{r:Ty}{rows Cz:List r.D}(k:TF E w vw E' w' (vw'.set b .dead))(hb:vw[b]? =some (.sl d r rows))(rT:vw'[b]? =some (.sl d' r Cz))(hl:Cz.length=rows.length)
  (hh:E'.IE b=E.IE b) {x:AV} {v:Value} (h:VR E w vw x v):VR E' w' vw' (J3 b x) v:=by
 have h1:=GU k h;have dX:∀{b'},b'≠b→(vw'.set b .dead)[b']? =vw'[b']?:=fun e=>ARd (fun h=>e h.symm)
 cases x with
 |v t x=>exact h1
 |sl s r x=>exact h1
 |nil=>exact h1
 |Im c j=>exact⟨by simpa using h1.1,h1.2⟩
 |Pg s r x j=>exact h1
 |fn f Kk=>exact⟨fun c hc=>by simpa using h1.1 c hc,h1.2⟩
 |qP f rows=>exact h1
 |xj=>exact h1
 |undef=>trivial
 |ref c p=>
  cases p with
  |nil=>
   simp only[J3];by_cases e:c=b
   ·subst e
    simp only[VR,hb,rT]at h⊢;refine⟨h.1,by simp[DG],⟨_,rfl⟩,?_⟩;grind[DB]
   grind[VR]
  |cons s p=>
   grind[J3,VR]
 |win c p off n=>
  cases p with
  |nil=>
   simp only[J3];by_cases e:c=b
   ·subst e
    simp only[VR,hb,rT]at h⊢;obtain⟨h0,_,q,ys,a,len,cap,e1,e2,e3,e4⟩:=h;simp only[HE,AMO,APl]at e1;obtain⟨rfl,e1⟩:=e1;obtain rfl:=ARM e1;refine⟨h0,by simp[DG],r,Cz,a,len,cap,rfl,by omega,?_,e4⟩;grind[DB]
   grind[VR]
  |cons s p=>
   grind[J3,VR]
 |Jk c p i sz j=>
  cases p with
  |nil=>
   simp only[J3];by_cases e:c=b
   ·subst e
    simp only[VR,hb,rT]at h⊢;obtain⟨h0,_,q,ys,bb,o,len,cap,e1,e2,e3,e4⟩:=h;simp only[HE,AMO,APl]at e1;obtain⟨rfl,e1⟩:=e1;obtain rfl:=ARM e1;refine⟨h0,by simp[DG],r,Cz,bb,o,len,cap,rfl,by omega,?_,e4⟩;grind[DB]
   grind[VR]
  |cons s p=>
   grind[J3,VR]
theorem ABs{E E':Env}{w w':World}{vw vw':List Bx}{b:Nat}(k:∀x v,VR E w vw x v→VR E' w' vw' (J3 b x) v){x:XV}{v:Value}(h:XR E w vw x v):XR E' w' vw' (tV b x) v:=by
 cases x with
 |c x=>exact k x v h
 |agg l=>
  obtain⟨vs,rfl,V6⟩:=h;exact⟨vs,rfl,CX.MA _ k V6⟩
 |Nr l=>
  obtain⟨vs,rfl,V6⟩:=h;refine⟨vs,rfl,CX.MA _ (fun x v hx=> ?_) V6⟩;cases x with
  |inl x=>exact k x v hx
  |inr q=>
   obtain⟨us,rfl,hus⟩:=hx;exact⟨us,rfl,CX.MA _ k hus⟩
end Go.Fw
end
section
namespace Go.Fw
theorem o_{w:World}{vw:List Bx}{E:Env}{bx:List Bx}{G:ABH}(h:C7 E w vw bx G)(hw:FM bx vw){d:Nat}(hd:1≤d){q:Ty}{old:q.D}{j:Nat}{x:XV}{v:Value}(hv:XR E w vw x v){Zx:q.D}{Qu:List Bx}{d':Nat}
  (e:nM d q old j x bx=some (Zx,Qu,d')):1≤d'∧d'≤d∧ ∃E' F,HL E w vw bx G E' Qu F∧
   ((j=0∧x.plain=false∧Ow w E'.S (d'-1) q v.cells.toList Zx F)∨(∃t y,v.cells.toList=[v]∧Ow w E'.S (d'-1) t [v] y F∧Dz q j old t y=some Zx∧(x.plain=true→t.scalar=true∧isSlice v=false))):=by
 unfold nM at e;split at e
 ·rename_i l
  split at e
  case isFalse=>cases e
  rename_i hj;obtain⟨vs,rfl,V6⟩:=hv;obtain⟨h1,h2,E',F,h3,h4⟩:=Zd h hw hd V6 e;exact⟨h1,h2,E',F,h3,.inl ⟨hj,rfl,h4⟩⟩
 ·rename_i x
  split at e
  case h_2=>cases e
  rename_i t y0 hc;simp only[AMi,AMU,ARK]at e;obtain⟨⟨y,jX,d1⟩,e1,row,e2,rfl,rfl,rfl⟩:=e;dsimp only at e2;have Yj:VR E w vw x v:=hv;have hk:x.known=true:=by grind[AV.known,dV]
  obtain⟨h1,h2,E',F,h3,h4⟩:=an h hw hd Yj e1;refine⟨h1,h2,E',F,h3,.inr ⟨t,y,by rw[(s8 Yj hk).2],h4,e2,fun hp=> ?_⟩⟩;cases x with
  |v u z=>
   simp only[dV,AMU,ARK]at e1;obtain⟨z',e3,_⟩:=e1;obtain⟨rfl,_⟩:=IW e3;obtain⟨hs,hr⟩:=Yj;refine⟨hs,?_⟩;cases u<;>simp_all[Ty.scalar,Rd]<;>rfl
  |_=>simp[XV.plain]at hp
 simp_all
theorem pw{f:AV→AV}{bx:List Bx}{b d:Nat}{r:Ty}{rows:List r.D}:(bx.set b (.sl d r rows)).map (Bx.map f)=(bx.map (Bx.map f)).set b (.sl d r rows):=by
 rw[List.map_set];rfl
theorem AD5{f:AV→AV}{bx:List Bx}{n d:Nat}{r:Ty}{rows:List r.D}(h:(bx.map (Bx.map f))[n]? =some (.sl d r rows)):bx[n]? =some (.sl d r rows):=by
 rw[ARa,AMU]at h;obtain⟨B,h1,h2⟩:=h;cases B with
 |mem cs=>simp[Bx.map]at h2
 |sl d' r' Cz=>rw[h1];exact congrArg some h2
 |dead=>simp[Bx.map]at h2
theorem rq{E:Env}{σ:St}{a:Act}{w:World}(h:Rel E σ a w){b i sz j:Nat}{p:List Wo}{va v:Value}(hva:VR E w σ.bx (.Jk b p i sz j) va){x:XV}(hv:XR E w σ.bx x v)(h1c:∀u∈v.cells.toList,u.oneCell' =true)
  {σ':St} (e:gR σ (.c (.Jk b p i sz j)) x=some σ'):
  ∃bb oo E',va= .pointer (some ⟨bb,oo,none⟩)∧w.there bb oo v.cells.toList.length∧Rel E' σ' a (w.setCells bb oo v.cells.toList)∧Rg [b] E σ.bx w E' σ'.bx (w.setCells bb oo v.cells.toList)∧σ'.tm.length=σ.tm.length:=by
 simp only[gR]at e;split at e
 case h_2=>cases e
 rename_i d r rows hb;split at e
 case isFalse=>cases e
 rename_i wG;simp only[AMi]at e;obtain⟨⟨q,ys⟩,hg,e⟩:=e;dsimp only at e;split at e
 case isFalse=>cases e
 rename_i Pe;simp only[AMi,AMU]at e;obtain⟨⟨Zx,aU,d2⟩,e1,Cz,e2,e3⟩:=e;dsimp only at e1 e2 e3;have st:=h.bx.st;simp only[VR,hb]at hva;obtain⟨_,hp,q1,ys1,bb,o,len,cap,g1,hi,g3,rfl⟩:=hva;rw[hg]at g1;simp only[AMO,APl]at g1;obtain⟨rfl,g1⟩:=g1;obtain rfl:=ARM g1;have FW:=(AMX.1 hb).1;obtain⟨Gb,⟨hd1,ho⟩,hB⟩:=h.bx.take hb;have Qj:FM (σ.bx.set b .dead) σ.bx:=fun n B hn=>by
  grind
 obtain⟨hd2,hd3,E1,Fx,k1,hrow⟩:=o_ hB Qj (by omega) hv e1;obtain⟨A,W,pG,ho2⟩:=KU (d:=d2+p.length) (by omega) ho;have X6:=k1.boxes.perm (G':=(Fx++A)++W++[]) (by
  grind)
 obtain⟨hle,hB3⟩:=X6.share;simp only[AN8]at hB3
 generalize hE3:({ E1 with S:=fun c=>E1.S c∨c∈W,T:=fun c=>E1.T c∨c∈W }:Env)=E3 at hle hB3
 have pK:Le E E3:=k1.le.trans hle;have ho3:Ow w E3.S (d2+p.length) (.sl r) [E.IE b] rows A:=EU (fun c hc=>by
  subst hE3;exact hc.imp (k1.le.S c) id) (fun _ _=>rfl) (fun _ _=>rfl) ho2
 obtain⟨h',F1,F2,m1,m2,m3,m4⟩:=oO ho3 hp hg (by omega);rw[g3]at m1;cases m1;obtain⟨m,rfl⟩:∃m,d2=m+1:=⟨d2-1,by omega⟩;rw[show m+1+p.length-p.length=m+1 by omega]at m2 m4;simp only[Nat.add_sub_cancel]at hrow;obtain⟨b1,o1,arr,ty,fr,cs,G,R,n1,n2,n3,n4,n5,n6,n7,n8,n9⟩:=so m2 hi;simp only[AMO,Addr.mk.injEq,ARx]at n1;obtain⟨rfl,rfl⟩:=n1;subst Pe;have hAp:A.Perm (G++(bb::R)++F2):=m3.trans (n8.append_right F2);obtain⟨Fs,hFs1,hFs2⟩:=hB3;have hbA:bb∈A:=hAp.mem_iff.2 (by simp);have bm: ¬E3.T bb:=hFs2.free bb (by simp[hbA]);have w5: ¬E3.S bb:=fun hc=>bm (hFs2.st bb hc)
 have nd:(Fx++(G++(bb::R)++F2)).Nodup:=(AU2 Fx hAp).nodup_iff.1 (AP2.1 hFs2.nodup).2.1;have hnx:bb∉Fx:=fun hc=>(AP2.1 nd).2.2 bb hc bb (by simp) rfl
 have hnG:bb∉G:=fun hc=>(AP2.1 (AP2.1 (AP2.1 nd).2.1).1).2.2 bb hc bb (by simp) rfl
 have hnR:bb∉R:=(AU_.1 (AP2.1 (AP2.1 (AP2.1 nd).2.1).1).2.1).1;have hn2:bb∉F2:=fun hc=>(AP2.1 (AP2.1 nd).2.1).2.2 bb (by simp) bb hc rfl
 have ZF:j+v.cells.toList.length≤q.n:=by
  rcases hrow with⟨rfl,_,ho4⟩|⟨t,y,hc1,ho4,Tk,_⟩
  ·rw[Xz ho4];omega
  ·rw[hc1]
   obtain⟨_,y0,hc0⟩:=U9 Tk;grind[eQ,List.getElem?_eq_some_iff]
 have d_:o+i*q.n+j+v.cells.toList.length≤arr.size:=by omega
 let w':=w.setCells bb (o+i*q.n+j) v.cells.toList
 have dX:∀c,c≠bb→w'.heap[c]? =w.heap[c]?:=fun c hc=>DQ _ _ _ _ _ hc
 have rG:∀c,E3.S c→w'.heap[c]? =w.heap[c]?:=fun c hc=>dX c (fun e=>w5 (e▸hc))
 have rT:=Ff v.cells.toList (o+i*q.n+j) w bb arr ty fr n2;have Zu:∃dL G' D0,dL.length=q.n∧Bb w' bb (o+i*q.n) dL∧Ow w' E3.S m q dL Zx G'∧(Fx++G).Perm (G'++D0):=by
  rcases hrow with⟨rfl,_,ho4⟩|⟨t,y,hc1,ho4,Tk,_⟩
  ·refine⟨v.cells.toList,Fx,G,Xz ho4,Ol n2 d_,EU (fun c hc=>hle.S c hc) (fun c hc=>dX c (fun e=>w5 (e▸hle.S c hc))) (fun c hc=>dX c (fun e=>hnx (e▸hc))) ho4,AWb _⟩
  ·obtain⟨_,y0,hc0⟩:=U9 Tk
   obtain⟨u,K1,K2,z1,z2,z3,z4⟩:=eQ n7 hc0;have AaJ:bb∉K2:=fun hc=>hnG (z3.mem_iff.2 (by simp[hc]))
   obtain⟨F',f1,f2⟩:=z4 w' E3.S v y Fx Zx (fun _ hc=>hc) rG (fun c hc=>dX c (fun e=>AaJ (e▸hc)))
    (EU (fun c hc=>hle.S c hc) (fun c hc=>dX c (fun e=>w5 (e▸hle.S c hc))) (fun c hc=>dX c (fun e=>hnx (e▸hc))) ho4) Tk
   refine⟨cs.set j v,F',K1,by simp_all,fun x u' hx=> ?_,f2,?_⟩
   ·rw[AVK]at hx
    split at hx
    ·rename_i ejx
     subst ejx;split at hx
     ·cases hx
      have:=Ol (w:=w) (b:=bb) (o:=o+i*q.n+j) (vs:=v.cells.toList) n2 d_ 0 v (by simp_all);omega
     simp_all
    ·rename_i ejx
     have hold:=n6 x u' hx;rw[LC n2]at hold;rw[LC rT,Wc d_,AMG (fun hh=>by grind),hold]
   grind
 obtain⟨dL,G',D0,c1,c2,c3,c4⟩:=Zu;obtain⟨nG,f1,f2⟩:=n9 w' E3.S (FK arr (o+i*q.n+j) v.cells.toList) dL Zx G' (fun _ hc=>hc) rG (fun c hc=>dX c (fun e=>hnR (e▸hc))) rT (Fg _ _ _) (fun k hk=>by
  rw[Wc d_,AMG (by omega)]) c1 c2 c3
 obtain⟨F',f3,f4⟩:=m4 w' E3.S (ys.set i Zx) nG Cz (fun _ hc=>hc) rG (fun c hc=>dX c (fun e=>hn2 (e▸hc))) f2 e2;have oP:(Fx++A).Perm (F'++D0):=by
  have p1:F'.Perm (G'++(bb::R)++F2):=f3.trans (f1.append_right F2);refine(AU2 Fx hAp).trans (List.Perm.trans ?_ (p1.symm.append_right D0));grind
 have AdP:bb∈F':=(f3.trans (f1.append_right F2)).mem_iff.2 (by simp);have hB4:C7 E3 w σ.bx aU F':=by
  have:C7 E3 w σ.bx aU (F'++D0):=C7.perm (G:=Fx++A) ⟨Fs,hFs1,hFs2⟩ oP;exact this.drop
 have nn:aU.length=σ.bx.length:=by rw[k1.len];simp
 have AWH:aU[b]? =some .dead:=by
  obtain⟨B,hB⟩:∃B,aU[b]? =some B:=⟨_,AMJ (by omega)⟩;rcases k1.within b B hB with e|e
  all_goals simp_all
 have hrl:Cz.length=rows.length:=qF hg (by simp) e2;have kT:∀E0,Le E0 E3→HL E0 w σ.bx σ.bx [] E3 aU (Fx++A):=fun E0 hl=>⟨hl,nn,fun n B hn=>by
  rcases k1.within n B hn with e|e
  all_goals grind,⟨Fs,hFs1,by simp_all⟩⟩
 have mg:∀n,E3.IE n=E.IE n:=fun n=>by rw[pK.IE]
 have hww:∀c,c<w.heap.size→c∉Fx++A→w'.heap[c]? =w.heap[c]?:=fun c _ hc=>dX c (fun e=>hc (by simp_all))
 have base:dA E w E3 w':=⟨pK.T,pK.S,pK.Tof,pK.y_,fun c hc=>dX c (fun e=>bm (e▸pK.T c hc)),(CA _ _ _ _).os,(CA _ _ _ _).tape,(CA _ _ _ _).output,(CA _ _ _ _).size⟩;have finish:∀(f:AV→AV) (g:XV→XV),(∀E0,Le E0 E3→(∀c,E0.S c→E0.T c)→ ∀x v,VR E0 w σ.bx x v→VR E3 w' ((aU.map (Bx.map f)).set b (.sl (m+1+p.length) r Cz)) (f x) v)→
   (∀x v,XR E w σ.bx x v→XR E3 w' ((aU.map (Bx.map f)).set b (.sl (m+1+p.length) r Cz)) (g x) v)→
   Rel E3 { tm:=σ.tm.map g,bx:=(aU.map (Bx.map f)).set b (.sl (m+1+p.length) r Cz) } a w':=by
  intro f g hf hg;refine⟨h.N8,CX.MA _ hg h.tm,?_⟩;have hT:=hB4.AU0 (E':=E3) (w':=w') (vw':=(aU.map (Bx.map f)).set b (.sl (m+1+p.length) r Cz)) f (hf E3 (Le.refl _) hFs2.st) (fun _ h=>h) (fun _ _=>rfl) (fun _ _=>rfl) (fun c hc _=>dX c (fun e=>by
    simp_all)) (fun F hF=>⟨hF.nodup,hF.free,fun c hc=>by rw[DY];exact hF.lt c hc,hF.st,fun c hc=>by rw[DY];exact hF.cf c hc⟩)
  refine C7.put (F:=F') (G:=[]) (by simp_all) (by rw[ARa,AWH];rfl) ⟨by omega,?_⟩;simp_all
 have AUO:∀f:AV→AV,Rg [b] E σ.bx w E3 ((aU.map (Bx.map f)).set b (.sl (m+1+p.length) r Cz)) w':=fun f=>⟨base,by simp[nn],fun n _=>⟨by rw[pK.ID],mg n⟩,fun n hn=>by
  have qO:n≠b:=fun e=>by simp_all
  have v7:=(AMX.1 hn).1;rw[ARd (fun e=>qO e.symm),ARa];obtain⟨B,hB⟩:∃B,aU[n]? =some B:=⟨_,AMJ (by omega)⟩;have hBd:B= .dead:=by
   rcases(kT E pK).within n B hB with e|e
   all_goals simp_all
  rw[hB,hBd];rfl,fun n B B' qO hB T3 xu=>by
  simp at qO;have v7:=(AMX.1 hB).1;rw[ARd (fun e=>qO e.symm),ARa]at T3;obtain⟨B2,X6⟩:∃B2,aU[n]? =some B2:=⟨_,AMJ (by omega)⟩;rw[X6]at T3;have T3:Bx.map f B2=B':=by simp_all
  have hBB:B2=B:=by
   rcases(kT E pK).within n B2 X6 with e|e
   ·subst e;exact absurd T3.symm xu
   simp_all
  subst hBB;refine⟨?_,fun c hc=>dX c (fun e=> ?_)⟩
  ·subst T3
   cases B2 with
   |mem cs=>trivial
   |sl d r rows=>rfl
   |dead=>exact absurd rfl xu
  ·have hF:Fs[n]? =some (Fs[n]'(by have:=(AMX.1 X6).1;rw[hFs1.1];omega)):=AMJ _
   have cV:wZ E3 w n B2 c:=by
    cases B2 with
    |mem cs=>simp only[wZ]at hc⊢;rw[pK.ID];omega
    |sl d r rows=>grind[wZ]
    |dead=>exact hc
   rcases eO (hFs1.2 n B2 _ X6 hF) cV with hs|hs
   ·simp_all
   ·exact(AP2.1 hFs2.nodup).2.2 c (ARc.2 ⟨_,AQq hF,hs⟩) bb (by simp[hbA]) e⟩
 refine⟨bb,o+i*q.n+j,E3,rfl,U6 (k:=0) n2 d_ n3,?_,?_,?_⟩
 ·split at e3
  ·rename_i AYP
   have h0:∀E0,Le E0 E3→(∀c,E0.S c→E0.T c)→TF E0 w σ.bx E3 w' (aU.set b (.sl (m+1+p.length) r Cz)):=by
    intro E0 hl st0;refine bD b (kT E0 hl) st0 (by simp[nn]) (fun n d r rows hn _ hq=>by
      grind) (fun _ _=>rfl) (fun _ _=>rfl) rfl rfl hww (fun d0 r0 Ro hq=> ?_)
    rw[ARy (by omega)]at hq;simp only[AMO,Bx.sl.injEq]at hq;obtain⟨rfl,rfl,hq⟩:=hq;obtain rfl:=ARM hq;refine⟨d,rows,hb,fun p' hp' q' zs vW=> ?_⟩;rcases hrow with⟨_,hpf,_⟩|⟨t,y,hc1,ho4,Tk,hsc⟩
    ·simp_all
    obtain⟨hs1,hs2⟩:=hsc AYP;have hk:=lC hs1 hp hg hi Tk e2 hp' q' zs vW;refine⟨hk.1,hk.2,fun hh hhe=> ?_⟩;rw[mg];rw[←hl.IE,mg]at hhe;refine sE (fun Ad=> ?_) (Xr f4) hk.1 hhe;by_cases eA:Ad.block=bb∧Ad.spot=none∧Ad.off=o+i*q.n+j
    ·right
     obtain⟨ab,ao,asp⟩:=Ad;simp only at eA;rw[eA.1,eA.2.1,eA.2.2];refine⟨v,?_,hs2⟩;have:=Ol (w:=w) (b:=bb) (o:=o+i*q.n+j) (vs:=v.cells.toList) n2 d_ 0 v (by simp_all);omega
    grind[World.cell?_setCells_out,List.length_cons,List.length_nil]
   have:=finish id id (fun E0 hl st0 x v hx=>by rw[aR];grind[GU]) (fun x v hx=>by rw[aR];grind[PC]);grind[aR,List.map_id]
  ·have h0:∀E0,Le E0 E3→(∀c,E0.S c→E0.T c)→ ∀x v,VR E0 w σ.bx x v→VR E3 w' ((aU.map (Bx.map (J3 b))).set b (.sl (m+1+p.length) r Cz)) (J3 b x) v:=by
    intro E0 hl st0 x v hx;have keep:TF E0 w σ.bx E3 w' (((aU.map (Bx.map (J3 b))).set b (.sl (m+1+p.length) r Cz)).set b .dead):=by
     refine bD b (kT E0 hl) st0 (by simp[nn]) (fun n d r rows hn _ hq=>by
      grind[List.getElem?_set_ne,AD5]) (fun _ _=>rfl) (fun _ _=>rfl) rfl rfl hww (fun d0 r0 Ro hq=> ?_)
     simp_all
    exact AC5 keep hb (by rw[ARy (by simp_all)]) hrl (by rw[hl.IE]) hx
   have:=finish (J3 b) (tV b) h0 (fun x v hx=>ABs (h0 E pK st) hx);grind[St.za,lq,pw]
 ·rw[←e3]
  split
  all_goals grind[id,aR,St.za,lq,pw]
 grind[St.za]
end Go.Fw
end
section
namespace Go.Fw
theorem eR{w w':World}{B B':Nat→Prop}:∀{r:Ty} {cs:List Value} {x:r.D},r.flat=true→Rd w B r cs x→Rd w' B' r cs x
 | .cons c r,cs,x,h,hr=>by
  simp only[Ty.flat,AMY]at h;simp only[Rd]at hr⊢;obtain⟨v,l,rfl,h1,h2⟩:=hr;exact⟨v,l,rfl,eR h.1 h1,eR h.2 h2⟩
 | .unit,_,_,_,hr=>by grind[Rd]
 | .int k,_,_,_,hr=>by grind[Rd]
 | .bool,_,_,_,hr=>by grind[Rd]
 | .str,_,_,_,hr=>by grind[Rd]
 | .sl q,_,_,h,_=>by simp[Ty.flat]at h
theorem dS{w:World}{S:Nat→Prop}{d:Nat}:∀{r:Ty} {cs:List Value} {y:r.D} {F:ABH},r.flat=true→Ow w S d r cs y F→F=[]
 | .int k,_,_,_,_,h=>by grind[Ow]
 | .bool,_,_,_,_,h=>by grind[Ow]
 | .str,_,_,_,_,h=>by grind[Ow]
 | .unit,_,_,_,_,h=>by grind[Ow]
 | .cons c r,_,_,_,hf,h=>by
  simp only[Ty.flat,AMY]at hf;simp only[Ow]at h;obtain⟨v,l,F1,F2,_,rfl,h1,h2⟩:=h;rw[dS hf.1 h1,dS hf.2 h2];rfl
 | .sl q,_,_,_,hf,_=>by simp[Ty.flat]at hf
theorem ve{w w':World}{S S':Nat→Prop}{d d':Nat}{r:Ty}(hr:r.flat=true){cs:List Value}{y:r.D}{F:ABH}(h:Ow w S d r cs y F):F=[]∧cs.length=r.n∧Ow w' S' d' r cs y []:=
 ⟨dS hr h,Xz h,jJ hr (eR (B':=fun _=>False) hr (Xr h))⟩
theorem jH:∀{r:Ty} {j:Nat} {x:r.D} {t:Ty} {y:t.D},r.flat=true→BN r j x=some ⟨t,y⟩→t.flat=true
 | .cons c r,0,x,t,y,h,e=>by
  simp only[Ty.flat,AMY]at h;simp only[BN,AMO,APl]at e;simp_all
 | .cons c r,j+1,x,t,y,h,e=>by
  simp only[Ty.flat,AMY]at h;simp only[BN]at e;exact jH h.2 e
 | .unit,_,_,_,_,_,e=>by simp[BN]at e
 | .int k,0,x,t,y,_,e=>by simp only[BN,AMO,APl]at e;simp_all
 | .bool,0,x,t,y,_,e=>by simp only[BN,AMO,APl]at e;simp_all
 | .str,0,x,t,y,_,e=>by simp only[BN,AMO,APl]at e;simp_all
 | .sl _,_,_,_,_,h,_=>by simp[Ty.flat]at h
 | .int _,_+1,_,_,_,_,e=>by simp[BN]at e
 | .bool,_+1,_,_,_,_,e=>by simp[BN]at e
 | .str,_+1,_,_,_,_,e=>by simp[BN]at e
theorem AA3{r:Ty}(hr:r.flat=true){rows:List r.D}:∀{p:List Wo},DG r rows p→p=[]
 |[],_=>rfl
 |s::p,h=>by
  simp only[DG]at h;obtain⟨_,_,h⟩:=h;exfalso;cases hc:BN r s.j (rowAt r rows s.i)with
  |none=>simp_all
  |some tx=>
   obtain⟨t,x⟩:=tx;have hf:=jH hr hc;grind[Ty.flat]
theorem flatten_nil{l:List ABH}(h:∀x∈l,x=[]):l.flatten=[]:=by
 simp_all;omega
theorem AAx{E:Env}{σ:St}{a:Act}{w:World}(h:Rel E σ a w){b d off n:Nat}{r:Ty}{rows:List r.D}(hb:σ.bx[b]? =some (.sl d r rows))(hr:r.flat=true)(hgd:r.sV=true)(hk:0<r.n)(hl:off+n≤rows.length)(hn:0<n):
  ∃bb o cap,E.IE b= .slice (some ⟨bb,o,none⟩) rows.length cap∧rows.length≤cap∧w.there bb (o+off*r.n) (n*r.n)∧
   Rel E { σ with bx:=σ.bx.set b (.sl d r ((rows.take off++List.replicate n r.z)++rows.drop (off+n))) } a (w.setCells bb (o+off*r.n) (List.replicate n (Ek r)).flatten)∧
   Rg [b] E σ.bx w E (σ.bx.set b (.sl d r ((rows.take off++List.replicate n r.z)++rows.drop (off+n)))) (w.setCells bb (o+off*r.n) (List.replicate n (Ek r)).flatten):=by
 have st:=h.bx.st;obtain⟨F,⟨hd,ho⟩,hB⟩:=h.bx.take hb;simp only[AN8]at hB;have FW:=(AMX.1 hb).1;obtain⟨d',rfl⟩:∃m,d=m+1:=⟨d-1,by omega⟩;simp only[Ow]at ho;obtain⟨ad,cap,hh,xq,ho⟩:=ho;simp only[ARF,ARx]at hh;rcases ho with⟨rfl,_⟩|⟨bb,o,arr,ty,fr,Fs,rfl,ha,Pe,hu,rfl,hFl,cC⟩
 ·omega
 have hFn:List.flatten Fs=[]:=flatten_nil fun x hx=>by
  obtain⟨i,hi,hxi⟩:=ARg hx;obtain⟨cs,_,_,h3⟩:=cC i (rows[i]'(by omega)) x (AMJ _) (by grind);exact(ve (w':=w) (S':=E.S) (d':=0) hr h3).1
 rw[hFn]at hB;have hzl:(Ek r).length=r.n:=Gz r;have hvl:((List.replicate n (Ek r)).flatten).length=n*r.n:=by simp_all
 have hm1:(off+n)*r.n≤cap*r.n:=AQY _ (by omega);have hm2:(off+n)*r.n=off*r.n+n*r.n:=ARz ..;have d_:o+off*r.n+((List.replicate n (Ek r)).flatten).length≤arr.size:=by omega
 generalize V6:(List.replicate n (Ek r)).flatten=vs at hvl d_
 refine⟨bb,o,cap,hh,xq,U6 ha (by omega) hu,?_⟩;have bm: ¬E.T bb:=hB.AEc _ (by simp);have hB0:=hB;have dX:∀c,c≠bb→(w.setCells bb (o+off*r.n) vs).heap[c]? =w.heap[c]?:=fun c hc=>DQ _ _ _ _ _ hc
 have hw:∀c,c<w.heap.size→c∉[bb]→(w.setCells bb (o+off*r.n) vs).heap[c]? =w.heap[c]?:=fun c _ hc=>dX c (by simp_all)
 have kT:HL E w σ.bx σ.bx [] E (σ.bx.set b .dead) [bb]:=⟨Le.refl _,by simp,fun n B hn=>by
  grind,by simp_all⟩
 generalize AOp:(rows.take off++List.replicate n r.z)++rows.drop (off+n)=Cz
 have ATo:Cz.length=rows.length:=by
  grind
 have keep:TF E w σ.bx E (w.setCells bb (o+off*r.n) vs) (σ.bx.set b (.sl (d'+1) r Cz)):=bD b kT st (by simp) (fun n d r rows hn _ hq=>by
   grind) (fun _ _=>rfl) (fun _ _=>rfl) rfl rfl hw (fun d1 r1 ALn hq=>by
   rw[ARy FW]at hq;simp only[AMO,Bx.sl.injEq]at hq;obtain⟨rfl,rfl,hq⟩:=hq;obtain rfl:=ARM hq;refine⟨d'+1,rows,hb,fun p hp q ys hg=> ?_⟩;obtain rfl:=AA3 hr hp;simp only[HE,AMO,APl]at hg;obtain⟨rfl,hg⟩:=hg;obtain rfl:=ARM hg;exact⟨by simp[DG],⟨Cz,by rfl,ATo⟩,fun h' hh' =>hh'⟩)
 refine⟨⟨h.N8,h.tm.imp fun _ _ hq=>PC keep hq,?_⟩,⟨⟨fun _ h=>h,fun _ h=>h,fun _ h=> .inl h,fun _ h=> .inl h,fun c hc=>dX c (fun e=>bm (e▸hc)),(CA _ _ _ _).os,(CA _ _ _ _).tape,(CA _ _ _ _).output,(CA _ _ _ _).size⟩,by simp,fun _ _=>⟨rfl,rfl⟩,fun n hn=>by
  grind,fun n B B' qO hB T3 xu=>by
  simp at qO;rw[ARd (fun e=>qO e.symm),hB]at T3;cases T3;refine⟨Vf.refl xu,fun c hc=>dX c (fun e=> ?_)⟩;obtain⟨Fs,⟨f1,f2⟩,f3⟩:=hB0;have X6:(σ.bx.set b .dead)[n]? =some B:=by grind
  have hF:Fs[n]? =some (Fs[n]'(by grind)):=AMJ _;rcases eO (f2 n B _ X6 hF) hc with hs|hs
  ·simp_all
  ·exact(AP2.1 f3.nodup).2.2 c (ARc.2 ⟨_,AQq hF,hs⟩) bb (by simp) e⟩⟩
 have hT:=hB.turn (E':=E) (w':=w.setCells bb (o+off*r.n) vs) (vw':=σ.bx.set b (.sl (d'+1) r Cz)) (fun x v hq=>GU keep hq) (fun _ h=>h) (fun _ _=>rfl) (fun _ _=>rfl) (fun c hc _=>dX c (fun e=>by
   simp_all)) (fun F hF=>⟨hF.nodup,hF.free,fun c hc=>by rw[DY];exact hF.lt c hc,hF.st,fun c hc=>by rw[DY];exact hF.cf c hc⟩)
 have ADN:pE E (w.setCells bb (o+off*r.n) vs) (σ.bx.set b (.sl (d'+1) r Cz)) b (.sl (d'+1) r Cz) [bb]:=by
  refine⟨hd,?_⟩;simp only[Ow];refine⟨_,cap,by simp_all,by omega,.inr ⟨bb,o,FK arr (o+off*r.n) vs,ty,fr,List.replicate Cz.length [],rfl,Ff _ _ _ _ _ _ _ ha,by rw[Fg];omega,by rw[Fg];omega,by simp,by simp,fun i y G hy hG=> ?_⟩⟩;have hG':G=[]:=ASD (AQq hG);subst hG';have hil:i<rows.length:=by grind
  by_cases UI:off≤i∧i<off+n
  ·have hyz:y=r.z:=by
    grind
   subst hyz;refine⟨Ek r,hzl,fun j v hj=> ?_,eN hgd⟩;have wT:j<r.n:=by grind
   have e1:(i-off)*r.n=i*r.n-off*r.n:=ATz ..;have e2:off*r.n≤i*r.n:=AQY _ UI.1;have e3:(i-off+1)*r.n≤n*r.n:=AQY _ (by omega);rw[ARz,Nat.one_mul]at e3;have:=Ol ha d_ ((i-off)*r.n+j) v (by
    grind[Nf,Nat.mul_comm,Nat.mul_add_mod,Nat.mod_eq_of_lt])
   grind
  ·have hyo:rows[i]? =some y:=by
    rw[←AOp]at hy;by_cases h1:i<off
    ·grind
    grind[List.getElem?_append_right]
   obtain⟨cs,c1,c2,c3⟩:=cC i y (Fs[i]'(by omega)) hyo (AMJ _);obtain⟨_,c4,c5⟩:=ve (w':=w.setCells bb (o+off*r.n) vs) (S':=E.S) (d':=d') hr c3;refine⟨cs,c4,UR c2 ha d_ (.inr ?_),c5⟩;by_cases h1:i<off
   ·have:(i+1)*r.n≤off*r.n:=AQY _ h1
    grind
   grind
 have:=C7.put (b:=b) (B:= .sl (d'+1) r Cz) (F:=[bb]) (G:=[]) (by simpa using hT) (by simp_all) ADN;simp_all
section
variable{Y:Type} {P:Program} {T:J0} (hT:Ei P T) {o:Oper} {E:Env} {σ:St} {a:Act} {w:World} {k:K Y} {y:Y}
include hT
theorem wj(h:Rel E σ a w){c:Call}{x:XV}(ho:o.op= .call c)(hc:c.callee= .builtin .clear)(Ie:c.args.toList.map σ.ev=[x])(e:j0 T c.argTypes σ x k=some y)
  (AXf:∀b p off n,x= .c (.win b p off n)→Kd (fun _=>none) σ o.op=[b]):∃v w' E' xv σ',((execOp a.eval o).run P w= .ok (.value v) w'∨((execOp a.eval o).run P w= .ok .skip w'∧v=undef))∧Rel E' σ' a w'∧XR E' w' σ'.bx xv v∧
   Rg (Kd (fun _=>none) σ o.op) E σ.bx w E' σ'.bx w'∧σ'.tm.length=σ.tm.length∧k xv σ' =some y:=by
 obtain⟨o1,hargs',rfl⟩:=XJ Ie;have bc:=h.ev o1;unfold j0 at e;split at e
 case h_2=>cases e
 rename_i t b off n ht hx;rw[hx]at bc;rw[AXf b [] off n hx];split at e
 case h_2=>cases e
 rename_i d r rows hb;split at e
 case isFalse=>cases e
 rename_i Us;rw[AMY]at Us;obtain⟨Us,hr⟩:=Us;rw[AMY,AOV]at hr;obtain⟨hr,hk⟩:=hr;obtain⟨el,ti,hu,VC,hs,hby,hrow⟩:=Kp hT Us;obtain⟨i,z,i1,i2,i3,i4,i5,hg⟩:=Wp hT VC hrow;have aS:VR E w σ.bx (.win b [] off n) (a.eval o1):=bc;simp only[VR,hb]at aS;obtain⟨_,_,q,ys,ad,len,cap,hgp,hl,hh,hv⟩:=aS;simp only[HE,AMO,APl]at hgp;obtain⟨rfl,hgp⟩:=hgp;obtain rfl:=ARM hgp;simp only[JB,AMO]at hh;by_cases hn:n=0
 ·subst hn
  have AVC:(rows.take off++List.replicate 0 r.z)++rows.drop (off+0)=rows:=by simp
  rw[AVC]at e;have Tk:σ.bx.set b (.sl d r rows)=σ.bx:=by
   apply ATl;grind
  rw[Tk]at e;refine⟨.tuple #[],w,E,.c .undef,σ,.inl ?_,h,trivial,Rg.refl _ _ _ _,rfl,e⟩;have hz:∃a' c',a.eval o1= .slice a' 0 c':=⟨_,_,by rw[hv];rfl⟩;obtain⟨a',c',hz⟩:=hz;simp only[execOp,ho,resolve,hc,hargs',invoke,builtin,Sem.run_bind,Sem.run_pure,Result.andThen_ok,List.map_toArray,AR9,AU6,Builtin.clear_,ht,hz];cases a'<;>simp[BW hu]
 ·obtain⟨bb,oo,cap',g1,g2,g3,g4,g5⟩:=AAx h (d:=d) hb hr hg hk hl (by omega)
  rw[g1]at hh;simp only[Value.slice.injEq]at hh;obtain⟨rfl,rfl,rfl⟩:=hh;have Yj:a.eval o1= .slice (some ⟨bb,oo+off*r.n,none⟩) n (cap'-off):=by
   rw[hv];unfold VP;rw[AMG (by omega)];simp[Addr.add]
  refine⟨.tuple #[],_,E,.c .undef,_,.inl ?_,g4,trivial,g5,rfl,e⟩;have hz:(Builtin.zeroCells z.cells n).toList=(List.replicate n (Ek r)).flatten:=by
   grind[Builtin.zeroCells,Ek,WV,Gz]
  have h1:∀v∈(List.replicate n (Ek r)).flatten,v.oneCell' =true:=fun v hv=>by
   obtain⟨l,hl1,uF⟩:=ARc.1 hv;rw[ASD hl1]at uF;exact jx (w:=w) (S:=E.S) (d:=0) (eN hg) v uF
  have hvl:((List.replicate n (Ek r)).flatten).length=n*r.n:=by rw[HK,Gz]
  have qM:=run_storeCells_cells (P:=P) bb (oo+off*r.n) (List.replicate n (Ek r)).flatten 0 w (fun j hj=>by simpa using(g3 j (by omega)).1) (fun j hj=>by simpa using(g3 j (by omega)).2) h1;rw[ASI]at qM;obtain⟨n',rfl⟩:∃n',n=n'+1:=⟨n-1,by omega⟩;simp only[execOp,ho,resolve,hc,hargs',invoke,builtin,Sem.run_bind,Sem.run_pure,Result.andThen_ok,List.map_toArray,AR9,AU6,Builtin.clear_,ht,Yj];simp[BW hu,zeroValue,typeInfo,i1,i4,hz,qM]
end
end Go.Fw
end
section
namespace Go.Fw
theorem nv{E:Env}{w:World}{vw:List Bx}:∀{l:List XV} {bs:ABH} {vs:List Value},vJ l=some bs→CX (XR E w vw) l vs→(∀b∈bs,b<vw.length)∧vs=bs.map fun b=>Value.pointer (some ⟨E.ID b,0,none⟩)
 |[],bs,vs,e,h=>by
  simp only[vJ,AMO]at e;subst e;cases vs with
  |nil=>simp_all
  |cons _ _=>exact h.elim
 |x::l,bs,vs,e,h=>by
  unfold vJ at e;split at e
  ·simp_all
  ·rename_i b l' heq
   cases heq;simp only[AMU]at e;obtain⟨r,e1,rfl⟩:=e;cases vs with
   |nil=>exact h.elim
   |cons v vs=>
    obtain⟨h1,h2⟩:=h;obtain⟨k1,k2⟩:=nv e1 h2;obtain⟨h3,h4⟩:b<vw.length∧v= .pointer (some ⟨E.ID b,0,none⟩):=h1;simp_all
  simp_all
theorem evs{E:Env}{σ:St}{a:Act}{w:World}(h:Rel E σ a w):∀l:List Operand,CX (XR E w σ.bx) (l.map σ.ev) (l.map a.eval)
 |[]=>trivial
 |x::l=>⟨h.ev x,evs h l⟩
theorem yh{E:Env}{σ:St}{a:Act}{w:World}(h:Rel E σ a w):∀o:Option Operand,OR E w σ.bx (o.map σ.ev) (o.map a.eval)
 |none=>trivial
 |some x=>h.ev x
theorem vq{w:World}{S:Nat→Prop}:∀{p:List Wo} {d:Nat} {r:Ty} {h:Value} {rows:List r.D} {F:ABH} {q:Ty} {ys:List q.D} {v:Value},Ow w S d (.sl r) [h] rows F→DG r rows p→
  HE r rows p=some ⟨q,ys⟩→d≤p.length→JB w h p=some v→Rd w S (.sl q) [v] ys
 |p,0,r,h,rows,F,q,ys,v,ho,hp,hg,_,hv=>by
  simp only[Ow]at ho;obtain⟨h',k,hr⟩:=nK ho.1 hp hg;simp_all
 |[],d+1,r,h,rows,F,q,ys,v,ho,hp,hg,hd,hv=>by simp_all
 |s::p,d+1,r,h,rows,F,q,ys,v,ho,hp,hg,hd,hv=>by
  simp only[DG]at hp;obtain⟨hi,Pe,hp⟩:=hp;simp only[HE]at hg;obtain⟨a,len,cap,rfl⟩:∃a len cap,h= .slice a len cap:=by
   have:=ho;simp only[Ow]at this;grind
  split at hg
  case h_2=>cases hg
  rename_i q' x' fg;rw[fg]at hp;obtain⟨b,o,arr,ty,fr,cs,G,R,rfl,hb,hu,hbd,c1,c2,c3,oP,hback⟩:=so ho hi;obtain⟨u,A1,A2,k1,k2,k3,k4⟩:=eQ c3 fg;simp only[JB]at hv;rw[Pe,c2 _ _ k1]at hv;exact vq k2 hp hg (by simp_all) hv
theorem xz{E:Env}{σ:St}{a:Act}{w:World}(h:Rel E σ a w){b i sz j:Nat}{p:List Wo}{va v:Value}(hva:VR E w σ.bx (.Jk b p i sz j) va){x:XV}(hv:XR E w σ.bx x v)(h1c:∀u∈v.cells.toList,u.oneCell' =true)
  {σ':St} (e:Ly σ (.c (.Jk b p i sz j)) x=some σ'):
  ∃bb oo E',va= .pointer (some ⟨bb,oo,none⟩)∧w.there bb oo v.cells.toList.length∧Rel E' σ' a (w.setCells bb oo v.cells.toList)∧Rg [b] E σ.bx w E' σ'.bx (w.setCells bb oo v.cells.toList)∧σ'.tm.length=σ.tm.length:=by
 unfold Ly aJ at e;split at e
 ·rename_i b0 _ _ _ _ b' s p' off n heq
  cases heq;split at e
  case isFalse=>cases e
  rename_i hbb;subst hbb;split at e
  case h_2=>cases e
  rename_i d r rows hb;simp only[AMi,AMU]at e;obtain⟨q,⟨⟨q0,ys⟩,hg,rfl⟩,e⟩:=e;dsimp only at e;have FW:=(AMX.1 hb).1;obtain⟨F,⟨hd1,ho⟩,hB⟩:=h.bx.take hb;obtain⟨A,W,pF,ho2⟩:=KU (d:=min d (p'.length+1)) (by omega) ho;have X6:=hB.perm (G':=A++W++[]) (by simp_all);obtain⟨hle,hB3⟩:=X6.share
  generalize hE1:({ E with S:=fun c=>E.S c∨c∈W,T:=fun c=>E.T c∨c∈W }:Env)=E1 at hle hB3
  have ho3:Ow w E1.S (min d (p'.length+1)) (.sl r) [E1.IE b'] rows A:=by
   rw[hle.IE];grind
  have hB4:=hB3.put (b:=b') (B:= .sl (min d (p'.length+1)) r rows) (by simp_all) ⟨by omega,ho3⟩;rw[AVm]at hB4;have hk:TF E w σ.bx E1 w (σ.bx.set b' (.sl (min d (p'.length+1)) r rows)):=by
   refine⟨by simp,fun _ _=>by rw[hle.ID],hle.T,hle.S,h.bx.st,fun _ _=>rfl,fun c d' r' Cz hc e=> ?_⟩;by_cases hcb:b' =c
   ·subst hcb
    rw[ARy FW]at e;simp only[AMO,Bx.sl.injEq]at e;obtain⟨rfl,rfl,e⟩:=e;obtain rfl:=ARM e;exact⟨d,rows,hb,fun p hp q ys hg=>⟨hp,⟨ys,hg,rfl⟩,fun h' hh=>by rw[hle.IE];omega⟩⟩
   ·rw[ARd hcb]at e
    exact⟨d',Cz,e,fun p hp q ys hg=>⟨hp,⟨ys,hg,rfl⟩,fun h' hh=>by rw[hle.IE];omega⟩⟩
  have bc:VR E w σ.bx (.win b' (s::p') off n) v:=hv;have aS:XR E1 w (σ.bx.set b' (.sl (min d (p'.length+1)) r rows)) (.c (.sl true q0 ((ys.drop off).take n))) v:=by
   simp only[VR,hb]at bc;obtain⟨_,hp,q1,ys1,a1,len,cap,g1,g2,g3,rfl⟩:=bc;rw[hg]at g1;simp only[AMO,APl]at g1;obtain⟨rfl,g1⟩:=g1;obtain rfl:=ARM g1;have:=vq ho3 hp hg (by grind) (by rw[hle.IE];omega);exact xk this g2
  have hr:Rel E1 { σ with bx:=σ.bx.set b' (.sl (min d (p'.length+1)) r rows) } a w:=
   ⟨h.N8,h.tm.imp fun _ _ hx=>PC hk hx,hB4.turn (E':=E1) (w':=w) (fun _ _ hv=>GU ⟨by simp,fun _ _=>rfl,fun _ h=>h,fun _ h=>h,hB3.st,fun _ _=>rfl,fun c d' r' Cz hc e=>by
    grind⟩ hv) (fun _ h=>h) (fun _ _=>rfl) (fun _ _=>rfl) (fun _ _ _=>rfl) fun F hF=>hF⟩
  obtain⟨bb,oo,E',q1,q2,q3,q4,q5⟩:=rq hr (GU hk hva) aS h1c e;refine⟨bb,oo,E',q1,q2,q3,⟨(hle.base w).trans q4.base,by simpa using q4.len,fun c hc=> ?_,fun c hc=> ?_,fun c B B' hct hB T3 hd=> ?_⟩,q5⟩
  ·have:=q4.ids c (by simp_all)
   exact⟨this.1.trans (by rw[hle.ID]),this.2.trans (by rw[hle.IE])⟩
  ·refine q4.dead c ?_
   grind
  ·have hcb:b'≠c:=fun e=>hct (by simp[e])
   obtain⟨f1,f2⟩:=q4.frame c B B' hct (by simp_all) T3 hd;refine⟨f1,fun c' cV=>f2 c' ?_⟩;cases B with
   |mem cs=>exact cV.trans (by rw[hle.ID])
   |sl d0 r0 Ro=>simp only[wZ]at cV⊢;rw[hle.IE];omega
   |dead=>exact cV
 grind[rq]
def oR:Op→Bool
 | .call { callee:= .value _,.. }=>true
 |_=>false
section
variable{Y:Type} {P:Program} {T:J0} (hT:Ei P T) {o:Oper} {E:Env} {σ:St} {a:Act} {w:World} {k:K Y} {y:Y}
include hT
theorem wy(h:Rel E σ a w){t:TypeId}{oa ox:Operand}(ho:o.op= .store t oa ox){ti:TI}(VC:T.get t=some ti)
  (hc:(σ.ev ox).cells.length=ti.size∧ti.size≠0∧(σ.ev ox).cells.all AV.known=true) {σ':St} (hs:Ly σ (σ.ev oa) (σ.ev ox)=some σ') (e:k (.c .undef) σ' =some y):L7 P o E σ a w k y:=by
 obtain⟨c1,c2,c3⟩:=hc;have ax:(σ.ev ox).cells≠[]:=fun hh=>by simp_all
 obtain⟨V6,h1c⟩:=pW (h.ev ox) c3 ax;have hlen:(a.eval ox).cells.toList.length=ti.size:=by rw[←CX.len V6];omega
 have hi:(P.info? t).map (·.size)=some (a.eval ox).cells.toList.length:=by grind[Ei.size]
 have hva:=h.ev oa;have fin:∀{bb oo:Nat} {E':Env},a.eval oa= .pointer (some ⟨bb,oo,none⟩)→w.there bb oo (a.eval ox).cells.toList.length→Rel E' σ' a (w.setCells bb oo (a.eval ox).cells.toList)→
   Rg (Kd (fun _=>none) σ o.op) E σ.bx w E' σ'.bx (w.setCells bb oo (a.eval ox).cells.toList)→σ'.tm.length=σ.tm.length→L7 P o E σ a w k y:=by
  intro bb oo E' e1 e2 e3 e4 e5;have hr:=mF (P:=P) e2 hi h1c;refine⟨undef,_,E',.c .undef,σ',.inr ⟨?_,rfl⟩,e3,trivial,e4,e5,e⟩;grind[execOp,Sem.run_bind,Result.andThen_ok,Sem.run_pure]
 generalize hxa:σ.ev oa=xa at hs hva
 cases xa with
 |agg l=>simp[Ly,aJ,gR]at hs
 |Nr l=>simp[Ly,aJ,gR]at hs
 |c x=>
  cases x with
  |Im b j=>
   simp only[Ly,aJ,AMP,gR]at hs;split at hs
   case h_2=>cases hs
   rename_i cs hb;simp only[AMU]at hs;obtain⟨dL,hs,rfl⟩:=hs;have AXt:b<σ.bx.length∧a.eval oa= .pointer (some ⟨E.ID b,j,none⟩):=hva;obtain⟨q1,q2,q3⟩:=AA0 h hb V6 ax hs;exact fin AXt.2 q1 q2 (by grind[Kd]) rfl
  |Jk b p i sz j=>
   obtain⟨bb,oo,E',q1,q2,q3,q4,q5⟩:=xz h hva (h.ev ox) h1c hs;grind[Kd]
  |_=>simp[Ly,aJ,gR]at hs
omit hT in
theorem uR(h:Rel E σ a w){x:Operand}(ho:o.op= .assign x)(e:aa σ (σ.ev x) k=some y):L7 P o E σ a w k y:=by
 have hr:(execOp a.eval o).run P w= .ok (.value (a.eval x)) w:=by simp only[execOp,ho,Sem.run_pure]
 have hv:=h.ev x;unfold aa at e;split at e
 ·rename_i b off n hx
  rw[hx]at hv;simp only[AMi]at e;obtain⟨⟨r,rows,bx,d⟩,e1,e⟩:=e;dsimp only at e;have Yj:VR E w σ.bx (.win b [] off n) (a.eval x):=hv;obtain⟨hd,F1,F2,k1,ho1⟩:=fS h.bx (FM.refl _) Yj e1;obtain⟨Fs0,hB1,X6⟩:=k1.boxes;simp only[AN8]at X6;have nd:=(AP2.1 (AP2.1 X6.nodup).2.1).1;obtain⟨r1,r2,r3⟩:=T0 h k1 (w':=w) hd ho1 (fun c hc=> .inl (APr.2 (.inl hc))) nd (fun c hc=>X6.lt c (by simp[hc])) (fun _ _ _=>rfl) ⟨rfl,rfl,rfl,AP3 _⟩;exact⟨_,_,_,_,_,.inl hr,r1,r3,r2.any,rfl,e⟩
 ·exact L7.same h hr hv e
theorem AAq{Γ:Nat→Option QB}(h:Rel E σ a w)(e:W5 T Γ o σ k=some y)(sJ:oR o.op=false):L7 P o E σ a w k y:=by
 have same:∀{v:Value} {x:XV},(execOp a.eval o).run P w= .ok (.value v) w→XR E w σ.bx x v→k x σ=some y→L7 P o E σ a w k y:=fun h1 h2 h3=>L7.same h h1 h2 h3
 obtain⟨Fs,hB,hS⟩:=h.bx;have st:=hS.st;unfold W5 at e;split at e
 ·rename_i x ho
  exact same (v:=a.eval x) (by grind[execOp,Sem.run_pure]) (h.ev x) e
 ·grind[uR]
 ·rename_i c xa xb ho
  split at e
  case h_2=>cases e
  rename_i p hp;have hc:=h.ev c;rw[hp]at hc;have cV:=Rj (E:=E) (w:=w) (vw:=σ.bx) hc;refine same (v:=if p then a.eval xa else a.eval xb) (x:=if p then σ.ev xa else σ.ev xb) (by simp[execOp,ho,cV,asBool]) (by cases p<;>simp[h.ev]) ?_
  grind[ACx]
 ·grind[xt]
 ·grind[ADe]
 ·grind[xQ]
 ·grind[mD]
 ·rename_i t x ho
  split at e
  case h_2=>cases e
  rename_i z hz;obtain⟨u,h1,h2⟩:=uK hT hB st hz (h.ev x);grind[execOp,Sem.run_bind,Result.andThen_ok,Sem.run_pure]
 ·grind[wy]
 ·rename_i x ho
  have hx:=h.ev x;split at e
  ·rename_i b j hp
   rw[hp]at hx;have hx':b<σ.bx.length∧a.eval x= .pointer (some ⟨E.ID b,j,none⟩):=hx;grind[execOp,Sem.run_pure]
  ·rename_i b p i sz j hp
   rw[hp]at hx;have hpt:bz (a.eval x)=true:=hx.1;grind[bz,execOp,Sem.run_pure]
  ·rename_i s r z j hp
   rw[hp]at hx;obtain⟨bb,oo,cs,hv,hrest⟩:=hx;exact same (v:=a.eval x) (x:= .c (.Pg s r z j)) (by grind[execOp,Sem.run_pure]) ⟨bb,oo,cs,hv,hrest⟩ e
  ·rename_i f Kk hp
   rw[hp]at hx;have hx':(∀b∈Kk,b<σ.bx.length)∧a.eval x= .func (.func f) #[] (Kk.map fun b=>Value.pointer (some ⟨E.ID b,0,none⟩)).toArray:=hx;grind[execOp,Sem.run_pure]
  simp_all
 ·rename_i op t x z s ho
  obtain⟨r,val,h1,h2,h3⟩:=gX hT e (h.ev x) (h.ev z) x z;exact same (v:=val) (x:= .c r) (by
   simp only[execOp,ho,Sem.run_bind];simp_all) h3 h1
 ·rename_i op t x ho
  obtain⟨r,val,h1,h2,h3⟩:=kL (P:=P) e (h.ev x);exact same (v:=val) (x:= .c r) (by grind[execOp,Sem.run_bind,Result.andThen_ok,Sem.run_pure]) h3 h1
 ·grind[zt]
 ·rename_i f first Kk ho
  split at e
  case isFalse=>cases e
  rename_i hf;split at e
  case h_2=>cases e
  rename_i bs hbs;obtain⟨q1,q2⟩:=nv hbs (evs h Kk.toList);have AYY:first.map a.eval= #[]:=by
   simp_all
  have AbK:Kk.map a.eval=(bs.map fun b=>Value.pointer (some ⟨E.ID b,0,none⟩)).toArray:=by
   grind
  refine same (v:= .func (.func f) #[] (bs.map fun b=>Value.pointer (some ⟨E.ID b,0,none⟩)).toArray) ?_ (x:= .c (.fn f bs)) ⟨q1,rfl⟩ e
  grind[execOp,Instr.makeFunc,Sem.run_bind,Sem.run_pure,Result.andThen_ok]
 ·grind[ABJ]
 ·rename_i t x lo hi ho
  obtain⟨z,val,h1,h2,h3⟩:=jS hT hB st e (h.ev x) (yh h lo) (yh h hi);grind[execOp,Sem.run_bind,Result.andThen_ok,Sem.run_pure]
 ·rename_i t x f ho
  split at e
  case h_2=>cases e
  rename_i z hz;obtain⟨u,h1,h2⟩:=iL hT hz (h.ev x);grind[execOp,Sem.run_bind,Result.andThen_ok,Sem.run_pure]
 ·rename_i t x f ho
  split at e
  case h_2=>cases e
  rename_i z hz;obtain⟨u,h1,h2⟩:=lS hT hz (h.ev x);grind[execOp,Sem.run_bind,Result.andThen_ok,Sem.run_pure]
 ·rename_i t x i ho
  obtain⟨z,val,h1,h2,h3⟩:=jR hT hB st e (h.ev x) (h.ev i);grind[execOp,Sem.run_bind,Result.andThen_ok,Sem.run_pure]
 ·rename_i t x i ho
  obtain⟨z,val,h1,h2,h3⟩:=bt hT e (h.ev x) (h.ev i);grind[execOp,Sem.run_bind,Result.andThen_ok,Sem.run_pure]
 ·rename_i x i ho
  split at e
  case h_2=>cases e
  rename_i z hz;obtain⟨u,h1,h2⟩:=cz (P:=P) hz (h.ev x);grind[execOp,Sem.run_bind,Result.andThen_ok,Sem.run_pure]
 ·rename_i f args ql ho
  rw[ho]at sJ;cases sJ
 ·rename_i args ql ho
  split at e
  ·rename_i s t Ie hts
   obtain⟨x,rfl,hx⟩:=XJ Ie;have hv:=h.ev x;rw[hx]at hv;have Yj:=Xx (E:=E) (w:=w) (vw:=σ.bx) hv;split at e
   case isFalse=>cases e
   rename_i hs;have hu:=Xk hT hs;refine same (v:= .int .i64 (s.length:Int)) (x:= .c (.v (.int .i64) (s.length:Int))) ?_ (VR.int (E:=E) (vw:=σ.bx) _ _) e
   have Pe:(⟨s.toArray⟩:ByteArray).size=s.length:=by rfl
   simp[execOp,ho,resolve,invoke,builtin,Builtin.len_,hts,Yj,BW hu,goInt,Pe]
  ·rename_i z t _ Ie hts
   obtain⟨x,rfl,hx⟩:=XJ Ie;have hv:=h.ev x;rw[hx]at hv;split at e
   case isFalse=>cases e
   rename_i hs;split at e
   case h_2=>cases e
   rename_i n hn;obtain⟨el,hu⟩:=js hT hs;obtain⟨ad,cap,Yj⟩:=lK hB st hn hv;refine same (v:= .int .i64 (n:Int)) (x:= .c (.v (.int .i64) (n:Int))) ?_ (VR.int (E:=E) (vw:=σ.bx) _ _) e
   simp[execOp,ho,resolve,invoke,builtin,Builtin.len_,hts,Yj,BW hu,goInt]
  simp_all
 ·rename_i args ql ho
  split at e
  case h_2=>cases e
  rename_i x1 x2 Ie;exact vu hT h ho rfl Ie e
 ·rename_i args ql ho
  split at e
  case h_2=>cases e
  rename_i x Ie;exact wj hT h ho rfl Ie e (fun b p off n hx=>by grind[Kd])
 ·rename_i args ql ho
  split at e
  case h_2=>cases e
  rename_i x1 x2 Ie;obtain⟨o1,o2,rfl,hx1,hx2⟩:=Xi Ie;have bc:=h.ev o1;have aS:=h.ev o2;rw[hx1]at bc;rw[hx2]at aS;obtain⟨r,val,h1,h2,h3⟩:=UB (P:=P) (big:=true) e bc aS ql #[] o.type;simp only[ARj]at h2;exact same (v:=val) (x:= .c r) (by simp[execOp,ho,resolve,invoke,builtin,h2]) h3 h1
 ·rename_i args ql ho
  split at e
  case h_2=>cases e
  rename_i x1 x2 Ie;obtain⟨o1,o2,rfl,hx1,hx2⟩:=Xi Ie;have bc:=h.ev o1;have aS:=h.ev o2;rw[hx1]at bc;rw[hx2]at aS;obtain⟨r,val,h1,h2,h3⟩:=UB (P:=P) (big:=false) e bc aS ql #[] o.type;simp only[AMZ,AQb]at h2;exact same (v:=val) (x:= .c r) (by simp[execOp,ho,resolve,invoke,builtin,h2]) h3 h1
 simp_all
end
end Go.Fw
end
