/- The framework, part 1: a checked interpreter of the model's code over abstract states; no claim is made here. -/
import Derived.Calls
import Derived.Still
import Derived.Laws.World
import Derived.Laws.AppendOwn
import Derived.RowKit3
import Derived.Deep.MidRow
import Derived.Laws.StructEq
import Derived.Lib.ConvBytes
import Derived.Laws.BytesArg
import Derived.Tactics
import Derived.OrdersHeld
import Derived.ChangeArms
import Derived.ChangeOld
import Derived.DataReads
import Derived.Below
import Derived.Shelf.Spec.SlicesInsertGrow
import Derived.Shelf.Slices.Delete
set_option linter.unusedVariables false
set_option linter.unusedSimpArgs false
set_option linter.unusedSectionVars false
abbrev ACX:Type:=Int × Int × Bool × List UInt8 × Unit
abbrev AMU:Type:=List UInt8 × List Int × Bool × Unit
abbrev AFh:Type:=List Int × Bool × Int × Unit
abbrev AFd:Type:=Int × Int × List UInt8 × Unit
abbrev AF0:Type:=Int × List UInt8 × Bool × Unit
abbrev ACz:Type:=Unit × Int × Unit × Unit × Unit × Int × Unit × Unit × Unit × Unit × Bool × Unit
abbrev AAD:Type:=List Int
abbrev AMg:Type:=Int × Bool × Int × Int × Bool × List UInt8 × Unit
abbrev ABD:Type:=List Int × Int × Unit
abbrev ACS:Type:=Int × Int × Int × Int × List UInt8 × Unit
abbrev ACW:Type:=List Int × Int × Int × Unit
abbrev AH5:Type:=Int × Int × Unit × Unit × Bool × Unit × Unit
abbrev ABV:Type:=Bool × Unit
abbrev ABw:Type:=Int × Unit
abbrev AMc:Type:=Unit × Unit × Int × Unit
abbrev ACP:Type:=Unit × Unit
abbrev ACQ:Type:=List Int × Unit
abbrev AIw:Type:=Unit × Int × Unit
abbrev ABG:Type:=List Nat
abbrev AJj:Type:=Int × Int × Unit × Unit
abbrev AJO:Type:=Int × Unit × Unit
abbrev AMd:Type:=Int × Bool × Unit
abbrev ACT:Type:=Nat × Nat
abbrev AFl:Type:=Unit × List Int × Unit
abbrev AFk:Type:=Nat × List Nat
abbrev AB_:Type:=List UInt8
abbrev AFm:Type:=List UInt8 × Unit
abbrev ABU:Type:=Int × Int × List Int × List ACX × Bool × List AAD × Unit
abbrev ACD:Type:=List ACX × List ACX × Int × Unit
abbrev ACY:Type:=Int × Int × List AFd × Unit
abbrev ACE:Type:=Int × List AMU × Unit
abbrev AAs:Type:=List ACX
abbrev AAg:Type:=List AFh
abbrev AAo:Type:=List AF0
abbrev ACC:Type:=List AFh × Int × Unit
abbrev AMh:Type:=ACz × Int × Unit
abbrev AB3:Type:=List AMU
abbrev AMl:Type:=AMc × Bool × Unit
abbrev AMm:Type:=AH5 × Bool × Unit
abbrev ACU:Type:=List AFd
abbrev ADZ:Type:=ACW × Unit
abbrev ACc:Type:=AIw × Unit
abbrev ACV:Type:=List ACS
abbrev AMx:Type:=AJO × Bool × Unit
abbrev AMr:Type:=AIw × Bool × Unit
abbrev AMq:Type:=ACX × Bool × Unit
abbrev AFg:Type:=ACW × List Int × Unit
abbrev AEY:Type:=AMd × Unit
abbrev AES:Type:=AMc × Unit
abbrev AD4:Type:=AH5 × Unit
abbrev ACR:Type:=List AMg
abbrev AEg:Type:=AJj × Unit
abbrev AEd:Type:=AJO × Unit
abbrev AE7:Type:=ACz × Unit
abbrev ACZ:Type:=ABw × Unit
abbrev AFj:Type:=ACS × Unit
abbrev AFi:Type:=ACX × Unit
abbrev AKh:Type:=AJO × Int × Bool × Unit
abbrev AKB:Type:=AIw × Int × Bool × Unit
abbrev ALP:Type:=ACz × Unit × ACz × Unit
abbrev AMI:Type:=ACz × Unit × Unit
abbrev AJ0:Type:=AJj × Int × Unit
abbrev ABi:Type:=List Int × Int × List ACD × List Int × List AFh × Int × List ACE × List ABU × List ACY × List AF0 × Bool × Unit
abbrev AAh:Type:=List ACD
abbrev AAq:Type:=List ACE
abbrev AA3:Type:=List ACY
abbrev AA2:Type:=List ABU
abbrev ACu:Type:=List Int × AAs × List AAD × Unit
abbrev ACr:Type:=AAs × AAs × Unit
abbrev ACa:Type:=AMh × Unit
abbrev ADN:Type:=AMl × Unit
abbrev AEA:Type:=AMm × Unit
abbrev AD1:Type:=AB3 × Unit
abbrev ADw:Type:=AAg × Unit
abbrev AEx:Type:=ACU × Unit
abbrev AEa:Type:=AAs × Unit
abbrev AFB:Type:=AMq × Unit
abbrev AFf:Type:=AMr × Unit
abbrev AFe:Type:=AMx × Unit
abbrev AMF:Type:=ACW × List Int × AAs × List AAD × Unit
abbrev AGO:Type:=Unit × AAs × Unit
abbrev AJm:Type:=AJj × Unit × ACU × Unit
abbrev AL1:Type:=ACW × AAs × AAs × Unit
abbrev AMA:Type:=ACW × AB3 × Unit
abbrev AL5:Type:=ACW × AAg × Unit
abbrev ACb:Type:=List Int × AAh × List Int × AAg × AAq × AA2 × AA3 × AAo × Unit
abbrev ADp:Type:=ACz × List Int × AAh × List Int × AAg × AAq × AA2 × AA3 × AAo × Unit
abbrev AGa:Type:=List Int × Int × AAh × List Int × AAg × Int × AAq × AA2 × AA3 × AAo × Bool × Unit
abbrev AMH:Type:=ACz × List Int × AAh × Unit × AAg × AAq × AA2 × AA3 × AAo × List Int × Unit
abbrev AMR:Type:=List Int × AAh × List Int × AAg × AAq × AA2 × AA3 × AAo × List Int × Unit
abbrev AK4:Type:=List Int × AAh × Unit × AAg × AAq × AA2 × AA3 × AAo × List Int × Unit
abbrev ALH:Type:=AAh × AAs × AAs × Unit
abbrev AM0:=@Bool.eq_false_or_eq_true
abbrev AM1:=@if_pos
abbrev AM2:=@if_neg
abbrev AM4:=@List.getElem?_eq_getElem
abbrev ANB:=@Option.some.injEq
abbrev AND:=@Option.map_eq_some_iff
abbrev ANF:=@List.getElem?_eq_some_iff
abbrev ANN:=@Bool.and_eq_true
abbrev ANP:=@cond_false
abbrev ANU:=@Option.bind_eq_some_iff
abbrev ANZ:=@Bool.not_true
abbrev ANw:=@Bool.false_eq_true
abbrev ANy:=@List.drop_eq_nil_of_le
abbrev AN0:=@Option.bind_some
abbrev AN4:=@Int.toNat_natCast
abbrev AN7:=@List.getElem_mem
abbrev AOA:=@cond_true
abbrev AOC:=@List.append_nil
abbrev AOH:=@decide_eq_true_eq
abbrev AOK:=@List.append_assoc
abbrev AOM:=@Bool.true_and
abbrev AOQ:=@Sigma.mk.injEq
abbrev AOX:=@List.length_cons
abbrev AOj:=@List.nodup_append
abbrev AOk:=@List.mem_append
abbrev AOq:=@List.length_append
abbrev AOw:=@List.getElem?_append_left
abbrev APC:=@Nat.mul_le_mul_right
abbrev APS:=@List.drop_zero
abbrev APT:=@beq_eq_false_iff_ne
abbrev APx:=@List.mem_of_getElem?
abbrev AP3:=@List.getElem?_append_right
abbrev AQQ:=@Nat.le_refl
abbrev AQS:=@if_false
abbrev AQV:=@Bool.not_eq_true
abbrev AQZ:=@Bool.not_eq_false'
abbrev AQg:=@decide_eq_true
abbrev AQl:=@List.length_nil
abbrev ARO:=@List.eq_nil_of_length_eq_zero
abbrev ARU:=@List.nil_append
abbrev ARi:=@List.mem_cons
abbrev ARu:=@List.mem_singleton
abbrev AR6:=@List.cons.injEq
abbrev ASL:=@List.filter_cons
abbrev ASM:=@Prod.mk.injEq
abbrev ASX:=@eq_of_heq
abbrev ASY:=@Nat.le_trans
abbrev ASZ:=@List.length_filter_le
abbrev ASa:=@List.getElem?_map
abbrev ASb:=@List.mem_flatten
abbrev ASc:=@List.getElem?_set_ne
abbrev ASd:=@Bool.not_false
abbrev ASe:=@List.getElem_of_mem
abbrev ASf:=@List.pairwise_cons
abbrev ASg:=@decide_eq_false
abbrev ASh:=@List.take_of_length_le
abbrev ASi:=@if_true
abbrev ASj:=@Bool.false_or
abbrev ASk:=@List.mem_or_eq_of_mem_set
abbrev ASl:=@List.singleton_append
abbrev ASm:=@List.getElem?_eq_none
abbrev ASn:=@Nat.lt_of_lt_of_le
abbrev ASo:=@beq_iff_eq
abbrev ASp:=@Option.getD_some
abbrev ASq:=@and_true
abbrev ASr:=@Bool.or_eq_true
abbrev ASs:=@Option.isSome_some
abbrev ASt:=@List.take_succ_eq_append_getElem
abbrev ASu:=@Option.isSome_none
abbrev ASv:=@Bool.false_and
abbrev ASw:=@List.all_eq_true
abbrev ASx:=@List.length_set
abbrev ASy:=@List.getElem?_set_self
abbrev ASz:=@Nat.add_mul
abbrev AS0:=@List.cons_append
abbrev AS1:=@List.drop_length
abbrev AS2:=@Bool.not_eq_true'
abbrev AS3:=@Bool.and_true
abbrev AS4:=@List.all_cons
abbrev AS5:=@List.map_congr_left
abbrev AS6:=@List.flatten_append
abbrev AS7:=@Nat.zero_add
abbrev AS8:=@List.length_replicate
abbrev AS9:=@List.eq_of_mem_replicate
abbrev AS_:=@List.contains_iff_mem
abbrev ATA:=@Bool.eq_false_iff
abbrev ATB:=@List.map_cons
abbrev ATC:=@Nat.add_assoc
abbrev ATD:=@List.mem_map
abbrev ATE:=@Nat.le_of_lt
abbrev ATF:=@List.flatten_cons
abbrev ATG:=@Nat.add_zero
abbrev ATH:=@List.length_take
abbrev ATI:=@List.mem_of_mem_drop
abbrev ATJ:=@decide_eq_false_iff_not
abbrev ATM:=@Option.bind_assoc
abbrev ATV:=@List.length_map
abbrev ATi:=@List.mem_filter
abbrev ATl:=@List.Perm.append_right
abbrev AT1:=@List.getElem_cons_zero
abbrev AT7:=@Int.tmod_eq_emod_of_nonneg
abbrev AT9:=@List.length_drop
abbrev AUE:=@List.set_cons_zero
abbrev AUL:=@List.map_map
abbrev AUN:=@List.take_append_drop
abbrev AUX:=@List.mem_of_mem_take
abbrev AUY:=@List.ext_getElem?
abbrev AUa:=@List.filter_nil
abbrev AUg:=@List.pairwise_map
abbrev AUk:=@apply_ite
abbrev AUs:=@Array.length_toList
abbrev AU5:=@Nat.sub_mul
abbrev AU6:=@List.flatten_nil
abbrev AU7:=@List.take_append_of_le_length
abbrev AVD:=@Bool.and_false
abbrev AVE:=@List.getElem?_drop
abbrev AVI:=@List.getElem?_take
abbrev AVM:=@List.filter_append
abbrev AVQ:=@List.Perm.append_left
abbrev AVg:=@List.map_nil
abbrev AVi:=@List.nodup_cons
abbrev AVm:=@Array.getD_eq_getD_getElem?
abbrev AVo:=@List.set_append_right
abbrev AVv:=@Decidable.not_not
abbrev AV0:=@List.exists_cons_of_length_eq_add_one
abbrev AV9:=@List.mem_of_find?_eq_some
abbrev AWB:=@List.pairwise_iff_getElem
abbrev AWG:=@List.take_zero
abbrev AWK:=@List.length_eq_zero_iff
abbrev AWQ:=@Int.eq_ofNat_of_zero_le
abbrev AWX:=@List.find?_cons
abbrev AWa:=@Nat.eq_zero_or_pos
abbrev AWs:=@Array.size_append
abbrev AWu:=@List.size_toArray
abbrev AW2:=@Nat.zero_le
abbrev AW6:=@List.set_set
abbrev AXC:=@dite_true
abbrev AXF:=@Bool.true_or
abbrev AXJ:=@List.getElem_set_self
abbrev AXK:=@List.mem_cons_of_mem
abbrev AXL:=@Bool.or_false
abbrev AXM:=@List.length_pos_iff
abbrev AXN:=@Option.some.inj
abbrev AXO:=@List.drop_set_of_lt
abbrev AXP:=@List.take_set_of_le
abbrev AXQ:=@Bool.eq_iff_iff
abbrev AXR:=@Nat.sub_self
abbrev AXS:=@List.Perm.refl
abbrev AXT:=@List.mapM_cons
section
namespace Go.Fw
inductive Ty where
 |int (k:IntKind)|bool|str|sl (r:Ty)|unit|cons (c r:Ty)
 deriving DecidableEq
@[reducible] def Ty.D:Ty→Type
 | .int _=>Int
 | .bool=>Bool
 | .str=>List UInt8
 | .sl r=>List r.D
 | .unit=>Unit
 | .cons c r=>c.D×r.D
def Ty.n:Ty→Nat
 | .unit=>0
 | .cons _ r=>r.n+1
 |_=>1
def Ty.z:(t:Ty)→t.D
 | .int _=>(0:Int)
 | .bool=>false
 | .str=>[]
 | .sl _=>[]
 | .unit=>()
 | .cons c r=>(c.z,r.z)
def Ty.flat:Ty→Bool
 | .sl _=>false
 | .cons c r=>c.flat&&r.flat
 |_=>true
def Ty.scalar:Ty→Bool
 | .int _| .bool| .str=>true
 |_=>false
structure Xb where
 i:Nat
 sz:Nat
 j:Nat
inductive AV where
 |v (t:Ty) (x:t.D)
 |sl (s:Bool) (r:Ty) (x:List r.D)
 |nil
 |ref (b:Nat) (p:List Xb)
 |win (b:Nat) (p:List Xb) (off n:Nat)
 |Ik (b j:Nat)
 |Jn (b:Nat) (p:List Xb) (i sz j:Nat)
 |P4 (s:Bool) (r:Ty) (x:r.D) (j:Nat)
 |fn (f:Nat) (Ky:ABG)
 |q7 (f:Nat) (rows:List ((r:Ty)×r.D))
 |xd
 |undef
def AV.known:AV→Bool
 | .undef=>false
 |_=>true
inductive XV where
 |c (x:AV)
 |agg (l:List AV)
 |M3 (l:List (AV ⊕ List AV))
inductive Bx where
 |mem (cs:List AV)
 |sl (d:Nat) (r:Ty) (rows:List r.D)
 |dead
structure St where
 tm:List XV
 bx:List Bx
def BN:(r:Ty)→(j:Nat)→r.D→Option ((t:Ty)×t.D)
 | .cons c _,0,x=>some ⟨c,x.1⟩
 | .cons _ r,j+1,x=>BN r j x.2
 | .unit,_,_=>none
 | .int k,0,x=>some ⟨.int k,x⟩
 | .bool,0,x=>some ⟨.bool,x⟩
 | .str,0,x=>some ⟨.str,x⟩
 | .sl r,0,x=>some ⟨.sl r,x⟩
 |_,_+1,_=>none
def oM{a b:Ty}(h:a=b)(x:a.D):b.D:=h▸x
def D5:(r:Ty)→(j:Nat)→r.D→(t:Ty)→t.D→Option r.D
 | .cons c _,0,x,t,y=>if h:t=c then some (oM h y,x.2)else none
 | .cons _ r,j+1,x,t,y=>(D5 r j x.2 t y).map fun z=>(x.1,z)
 | .unit,_,_,_,_=>none
 | .int k,0,_,t,y=>if h:t= .int k then some (oM h y)else none
 | .bool,0,_,t,y=>if h:t= .bool then some (oM h y)else none
 | .str,0,_,t,y=>if h:t= .str then some (oM h y)else none
 | .sl r,0,_,t,y=>if h:t= .sl r then some (oM h y)else none
 |_,_+1,_,_,_=>none
def rowAt(r:Ty)(rows:List r.D)(i:Nat):r.D:=rows.getD i r.z
def HE:(r:Ty)→List r.D→List Xb→Option ((q:Ty)×List q.D)
 |r,rows,[]=>some ⟨r,rows⟩
 |r,rows,s::p=>
  match BN r s.j (rowAt r rows s.i)with
  |some ⟨.sl q,x⟩=>HE q x p
  |_=>none
def qa:(r:Ty)→List r.D→List Xb→(q:Ty)→List q.D→Option (List r.D)
 |r,_,[],q,y=>if h:q=r then some (oM (congrArg Ty.sl h) y)else none
 |r,rows,s::p,q,y=>
  match BN r s.j (rowAt r rows s.i)with
  |some ⟨.sl r',x⟩=>(qa r' x p q y).bind fun x' =>(D5 r s.j (rowAt r rows s.i) (.sl r') x').map fun row=>rows.set s.i row
  |_=>none
inductive TD where
 |int (k:IntKind)|bool|str|sl (e:Nat)|st (fs:List ACT)|ptr (e:Nat)|other
structure TI where
 size:Nat
 bytes:Nat
 desc:TD
 row:Option Ty
abbrev J8:=List (Nat×TI)
def J8.get:J8→Nat→Option TI
 |[],_=>none
 |(u,i)::l,t=>if u=t then some i else J8.get l t
def TD.agg:TD→Bool
 | .st _=>true
 |_=>false
def J8.i7(T:J8)(t:Nat):Option Ty:=
 match T.get t with
 |some ti=>ti.row
 |none=>none
def yL:Ty→AV
 | .int k=> .v (.int k) (0:Int)
 | .bool=> .v .bool false
 | .str=> .v .str []
 | .sl _=> .nil
 |_=> .undef
def ba:Ty→List AV
 | .cons c r=>yL c::ba r
 | .unit=>[]
 |t=>[yL t]
def qz:Value→AV
 | .int k n=> .v (.int k) n
 | .bool b=> .v .bool b
 | .string s=> .v .str s.data.toList
 | .slice none 0 0=> .nil
 | .pointer none=> .xd
 |_=> .undef
def ofValue:Value→XV
 | .agg cs=> .agg (cs.toList.map qz)
 |v=> .c (qz v)
def St.ev(σ:St):Operand→XV
 | .tmp t=>σ.tm.getD t (.c .undef)
 | .const v=>ofValue v
 | .global _=> .c .undef
 | .func f=> .c (.fn f [])
def St.put(σ:St)(dst:Option Tmp)(x:XV):St:=
 match dst with
 |some d=>{ σ with tm:=σ.tm.set d x }
 |none=>σ
def XV.cells:XV→List AV
 | .c x=>[x]
 | .agg l=>l
 | .M3 _=>[]
def Q1{β:Ty→Type}(a b:Ty)(x:β a):Option (β b):=if h:a=b then some (h▸x)else none
def N5(bx:List Bx):AV→Option ((r:Ty)×List r.D)
 | .sl _ r x=>some ⟨r,x⟩
 | .ref b p=>
  match bx[b]? with
  |some (.sl _ r rows)=>HE r rows p
  |_=>none
 | .win b p off n=>
  match bx[b]? with
  |some (.sl _ r rows)=>(HE r rows p).map fun q=>⟨q.1,(q.2.drop off).take n⟩
  |_=>none
 |_=>none
def NN(bx:List Bx)(t:Ty)(x:AV):Option t.D:=
 match x with
 | .v u y=>Q1 (β:=Ty.D) u t y
 | .nil=>match t with
  | .sl _=>some []
  |_=>none
 |x=>match t with
  | .sl r=>(N5 bx x).bind fun q=>Q1 (β:=fun r=>List r.D) q.1 r q.2
  |_=>none
def IU(bx:List Bx):(r:Ty)→List AV→Option r.D
 | .unit,[]=>some ()
 | .cons c r,x::l=>(NN bx c x).bind fun a=>(IU bx r l).map fun b=>(a,b)
 |_,_=>none
def lenOf(bx:List Bx):AV→Option Nat
 | .nil=>some 0
 | .sl _ _ x=>some x.length
 | .ref b p=>
  match bx[b]? with
  |some (.sl _ r rows)=>(HE r rows p).map fun q=>q.2.length
  |_=>none
 | .win b _ _ n=>
  match bx[b]? with
  |some (.sl _ _ _)=>some n
  |_=>none
 |_=>none
inductive AP where
 |v (t:Ty)
 |sl (s:Bool) (r:Ty)
 |nil
 |ref (i:Nat)
 |ptr (i j:Nat)
 |nV (r:Ty)
 |fn (f:Nat) (Ky:ABG)
 |q7 (f:Nat) (rs:List Ty)
 |any
 |lC (i sz:Nat)
inductive XP where
 |c (p:AP)
 |agg (l:List AP)
 |row (r:Ty)
 |M3 (l:List (AP ⊕ List AP))
inductive BP where
 |mem (l:List AP)
 |sl (d:Nat) (r:Ty)
 |gone
structure A6 where
 D2:List (Nat×XP)
 G6:List BP
@[reducible] def aA:List Ty→Type
 |[]=>Unit
 |r::l=>r.D×aA l
def aA.mk:(l:List Ty)→aA l→List ((r:Ty)×r.D)
 |[],_=>[]
 |r::l,x=>⟨r,x.1⟩::aA.mk l x.2
@[reducible] def AP.V:AP→Type
 | .q7 _ rs=>aA rs
 | .v t=>t.D
 | .sl _ r=>List r.D
 | .nV r=>r.D
 | .lC _ _=>Nat×Nat
 |_=>Unit
@[reducible] def Yk.V:List AP→Type
 |[]=>Unit
 |p::l=>p.V×Yk.V l
@[reducible] def Yq.V:List (AP ⊕ List AP)→Type
 |[]=>Unit
 | .inl p::l=>p.V×Yq.V l
 | .inr q::l=>Yk.V q×Yq.V l
@[reducible] def XP.V:XP→Type
 | .c p=>p.V
 | .agg l=>Yk.V l
 | .row r=>r.D
 | .M3 l=>Yq.V l
@[reducible] def BP.V:BP→Type
 | .mem l=>Yk.V l
 | .sl _ r=>List r.D
 | .gone=>Unit
@[reducible] def G9.V:List (Nat×XP)→Type
 |[]=>Unit
 |(_,p)::l=>p.V×G9.V l
@[reducible] def J6.V:List BP→Type
 |[]=>Unit
 |p::l=>p.V×J6.V l
@[reducible] def A6.V (s:A6):Type:=G9.V s.D2×J6.V s.G6
def AP.mk(m:Nat→Nat):(p:AP)→p.V→AV
 | .v t,x=> .v t x
 | .sl s r,x=> .sl s r x
 | .nil,_=> .nil
 | .ref i,_=> .ref (m i) []
 | .ptr i j,_=> .Ik (m i) j
 | .nV r,x=> .P4 false r x 0
 | .fn f Ky,_=> .fn f (Ky.map m)
 | .q7 f rs,x=> .q7 f (aA.mk rs x)
 | .any,_=> .undef
 | .lC i sz,k=> .ref (m i) [⟨k.1,sz,k.2⟩]
def Yk.mk(m:Nat→Nat):(l:List AP)→Yk.V l→List AV
 |[],_=>[]
 |p::l,x=>p.mk m x.1::Yk.mk m l x.2
def qY:(r:Ty)→r.D→List AV
 | .unit,_=>[]
 | .cons c r,x=>(match c,x.1 with
  | .sl q,y=>AV.sl false q y
  |c,y=> .v c y)::qY r x.2
 | .sl q,x=>[.sl false q x]
 | .int k,x=>[.v (.int k) x]
 | .bool,x=>[.v .bool x]
 | .str,x=>[.v .str x]
def Yq.mk(m:Nat→Nat):(l:List (AP ⊕ List AP))→Yq.V l→List (AV ⊕ List AV)
 |[],_=>[]
 | .inl p::l,x=> .inl (p.mk m x.1)::Yq.mk m l x.2
 | .inr q::l,x=> .inr (Yk.mk m q x.1)::Yq.mk m l x.2
def XP.mk(m:Nat→Nat):(p:XP)→p.V→XV
 | .c p,x=> .c (p.mk m x)
 | .agg l,x=> .agg (Yk.mk m l x)
 | .row r,x=> .agg (qY r x)
 | .M3 l,x=> .M3 (Yq.mk m l x)
def BP.mk(m:Nat→Nat):(p:BP)→p.V→Bx
 | .mem l,x=> .mem (Yk.mk m l x)
 | .sl d r,x=> .sl d r x
 | .gone,_=> .dead
def G9.mk(m:Nat→Nat):(l:List (Nat×XP))→G9.V l→List XV→List XV
 |[],_,tm=>tm
 |(i,p)::l,x,tm=>G9.mk m l x.2 (tm.set i (p.mk m x.1))
def J6.mk(m:Nat→Nat):(l:List BP)→J6.V l→List Bx
 |[],_=>[]
 |p::l,x=>p.mk m x.1::J6.mk m l x.2
def A6.st(s:A6)(n:Nat)(x:s.V):St:=
 { tm:=G9.mk id s.D2 x.1 (List.replicate n (.c .undef)),bx:=J6.mk id s.G6 x.2 }
abbrev QA:=List (Option Nat)
def QA.put(m:QA)(i b:Nat):Option QA:=
 match m[i]? with
 |some none=>if m.contains (some b)then none else some (m.set i (some b))
 |some (some b')=>if b' =b then some m else none
 |none=>none
def bq:QA→List Nat→List Nat→Option QA
 |m,[],[]=>some m
 |m,i::is,b::bs=>(m.put i b).bind fun m=>bq m is bs
 |_,_,_=>none
def AP.Oc(N:Nat)(m:QA):AP→AV→Option QA
 | .ref i,.ref b []=>m.put i b
 | .ref i,.nil=>m.put i (N+i)
 | .ref _,_=>none
 | .lC i sz,.ref b [s]=>if s.sz=sz then m.put i b else none
 | .lC _ _,_=>none
 | .ptr i j,.Ik b j' =>if j=j' then m.put i b else none
 | .ptr _ _,_=>none
 | .fn f Ky,.fn g bs=>if f=g then bq m Ky bs else none
 | .fn _ _,_=>none
 | .nil,.nil=>some m
 | .nil,_=>none
 |_,_=>some m
def Yk.Oc(N:Nat):QA→List AP→List AV→Option QA
 |m,[],[]=>some m
 |m,p::l,x::xs=>(p.Oc N m x).bind fun m=>Yk.Oc N m l xs
 |_,_,_=>none
def Yq.Oc(N:Nat):QA→List (AP ⊕ List AP)→List (AV ⊕ List AV)→Option QA
 |m,[],[]=>some m
 |m,.inl p::l,.inl x::xs=>(p.Oc N m x).bind fun m=>Yq.Oc N m l xs
 |m,.inr p::l,.inr x::xs=>(Yk.Oc N m p x).bind fun m=>Yq.Oc N m l xs
 |_,_,_=>none
def XP.Oc(N:Nat)(m:QA):XP→XV→Option QA
 | .c p,.c x=>p.Oc N m x
 | .agg l,.agg xs=>Yk.Oc N m l xs
 | .row _,.agg _=>some m
 | .M3 l,.M3 xs=>Yq.Oc N m l xs
 |_,_=>none
def G9.Oc(N:Nat)(tm:List XV):QA→List (Nat×XP)→Option QA
 |m,[]=>some m
 |m,(i,p)::l=>
  match tm[i]? with
  |some x=>(p.Oc N m x).bind fun m=>G9.Oc N tm m l
  |none=>none
def J6.Oc(N:Nat)(bx:List Bx):Nat→QA→List BP→Option QA
 |_,m,[]=>some m
 |i,m,.mem l::ps=>
  match m[i]? with
  |some (some b)=>
   match bx[b]? with
   |some (.mem cs)=>(Yk.Oc N m l cs).bind fun m=>J6.Oc N bx (i+1) m ps
   |_=>none
  |_=>none
 |i,m,.sl _ _::ps=>
  match m[i]? with
  |some (some _)=>J6.Oc N bx (i+1) m ps
  |_=>none
 |i,m,.gone::ps=>J6.Oc N bx (i+1) m ps
def Cx(bx:List Bx):QA→List Bx
 |[]=>bx
 |some b::m=>Cx (bx.set b .dead) m
 |none::m=>Cx bx m
def aA.qM:(l:List Ty)→List ((r:Ty)×r.D)→Option (aA l)
 |[],[]=>some ()
 |r::l,q::qs=>(Q1 (β:=Ty.D) q.1 r q.2).bind fun a=>(aA.qM l qs).map fun b=>(a,b)
 |_,_=>none
def aA.qQ(bx:List Bx):(l:List Ty)→List Nat→Option (aA l)
 |[],[]=>some ()
 |r::l,b::bs=>(match bx[b]? with
  |some (.mem cs)=>IU bx r cs
  |_=>none).bind fun a=>(aA.qQ bx l bs).map fun c=>(a,c)
 |_,_=>none
def AP.get(bx:List Bx):(p:AP)→AV→Option p.V
 | .q7 f rs,x=>match x with
  | .q7 g rows=>if f=g then aA.qM rs rows else none
  | .fn g bs=>if f=g then aA.qQ bx rs bs else none
  |_=>none
 | .v t,x=>if t.scalar then NN bx t x else none
 | .sl false r,x=>NN bx (.sl r) x
 | .sl true r,x=>match x with
  | .sl true q y=>Q1 (β:=fun r=>List r.D) q r y
  | .nil=>some []
  |_=>none
 | .nV r,x=>match x with
  | .P4 _ q y 0=>Q1 (β:=Ty.D) q r y
  | .Ik b 0=>match bx[b]? with
   |some (.mem cs)=>IU bx r cs
   |_=>none
  | .Jn b p i sz 0=>match bx[b]? with
   |some (.sl _ q rows)=>(HE q rows p).bind fun s=>if sz=s.1.n then Q1 (β:=Ty.D) s.1 r (rowAt s.1 s.2 i)else none
   |_=>none
  |_=>none
 | .nil,_=>some ()
 | .ref _,_=>some ()
 | .ptr _ _,_=>some ()
 | .fn _ _,_=>some ()
 | .any,_=>some ()
 | .lC _ _,x=>match x with
  | .ref _ [s]=>some (s.i,s.j)
  |_=>none
def Yk.get(bx:List Bx):(l:List AP)→List AV→Option (Yk.V l)
 |[],[]=>some ()
 |p::l,x::xs=>(p.get bx x).bind fun a=>(Yk.get bx l xs).map fun b=>(a,b)
 |_,_=>none
def Yq.get(bx:List Bx):(l:List (AP ⊕ List AP))→List (AV ⊕ List AV)→Option (Yq.V l)
 |[],[]=>some ()
 | .inl p::l,.inl x::xs=>(p.get bx x).bind fun a=>(Yq.get bx l xs).map fun b=>(a,b)
 | .inr p::l,.inr x::xs=>(Yk.get bx p x).bind fun a=>(Yq.get bx l xs).map fun b=>(a,b)
 |_,_=>none
def XP.get(bx:List Bx):(p:XP)→XV→Option p.V
 | .c p,.c x=>p.get bx x
 | .agg l,.agg xs=>Yk.get bx l xs
 | .row r,.agg xs=>IU bx r xs
 | .M3 l,.M3 xs=>Yq.get bx l xs
 |_,_=>none
def G9.get(bx:List Bx)(tm:List XV):(l:List (Nat×XP))→Option (G9.V l)
 |[]=>some ()
 |(i,p)::l=>
  match tm[i]? with
  |some x=>(p.get bx x).bind fun a=>(G9.get bx tm l).map fun b=>(a,b)
  |none=>none
def J6.get(bx bk:List Bx):(m:QA)→(l:List BP)→Option (J6.V l)
 |_,[]=>some ()
 |some b::m,.mem l::ps=>
  match bx[b]? with
  |some (.mem cs)=>(Yk.get bk l cs).bind fun a=>(J6.get bx bk m ps).map fun c=>(a,c)
  |_=>none
 |some b::m,.sl d r::ps=>
  match bx[b]? with
  |some (.sl d' q rows)=>if 1≤d∧d≤d' then(Q1 (β:=fun r=>List r.D) q r rows).bind fun a=>(J6.get bx bk m ps).map fun c=>(a,c)else none
  |_=>none
 |_::m,.gone::ps=>(J6.get bx bk m ps).map fun c=>((),c)
 |_,_=>none
def A6.fit(s:A6)(N:Nat)(m0:QA)(tm:List XV)(bx:List Bx):Option (s.V×QA):=
 (G9.Oc N tm m0 s.D2).bind fun m=>(J6.Oc N bx 0 m s.G6).bind fun m=>
  let bk:=Cx bx m
  (G9.get bk tm s.D2).bind fun a=>(J6.get bx bk m s.G6).map fun c=>((a,c),m)
def BP.opened:BP→Bx
 | .sl d r=> .sl (d+1) r []
 |_=> .dead
def A6.opens(s:A6)(bx:List Bx):List Bx:=bx++s.G6.map BP.opened
def A6.m0(s:A6):QA:=List.replicate s.G6.length none
structure QJ where
 ins:A6
 outs:A6
 g:ins.V→Option outs.V
def Yv(m:QA)(n:Nat)(i:Nat):Nat:=
 match m[i]? with
 |some (some b)=>b
 |_=>n+(i-m.length)
def ag(Jw:Nat→Nat):Nat→(l:List BP)→J6.V l→List Bx→List Bx
 |_,[],_,bx=>bx
 |i,p::l,x,bx=>ag Jw (i+1) l x.2 (if Jw i<bx.length then bx.set (Jw i) (p.mk Jw x.1)else bx++[p.mk Jw x.1])
def fG:(l:List (Nat×XP))→G9.V l→(Nat→Nat)→XV
 |(_,p)::_,x,Jw=>p.mk Jw x.1
 |[],_,_=> .c .undef
def C7:Nat:=2^36
section ops
variable{Y:Type}
abbrev K(Y:Type):=XV→St→Option Y
def St.new(σ:St)(b:Bx):St:={ σ with bx:=σ.bx++[b] }
def ADt(x:Bool)(a b:XV)(σ:St)(k:K Y):Option Y:=cond x (k a σ) (k b σ)
def gA(op:BinOp)(κ:IntKind)(a b:Int)(k:AV→Option Y):Option Y:=
 match op with
 | .add=>k (.v (.int κ) (κ.wrap (a+b)))
 | .sub=>k (.v (.int κ) (κ.wrap (a-b)))
 | .mul=>k (.v (.int κ) (κ.wrap (a*b)))
 | .quo=>if b=0 then none else k (.v (.int κ) (κ.wrap (a.tdiv b)))
 | .rem=>if b=0 then none else k (.v (.int κ) (a.tmod b))
 | .and=>k (.v (.int κ) (κ.wrap (BitVec.ofInt κ.bits a &&& BitVec.ofInt κ.bits b).toNat))
 | .or=>k (.v (.int κ) (κ.wrap (BitVec.ofInt κ.bits a ||| BitVec.ofInt κ.bits b).toNat))
 | .xor=>k (.v (.int κ) (κ.wrap (BitVec.ofInt κ.bits a ^^^ BitVec.ofInt κ.bits b).toNat))
 | .andNot=>k (.v (.int κ) (κ.wrap (BitVec.ofInt κ.bits a &&& ~~~BitVec.ofInt κ.bits b).toNat))
 | .eql=>k (.v .bool (a==b))
 | .neq=>k (.v .bool (a !=b))
 | .lss=>k (.v .bool (decide (a<b)))
 | .leq=>k (.v .bool (decide (a≤b)))
 | .gtr=>k (.v .bool (decide (a>b)))
 | .geq=>k (.v .bool (decide (a≥b)))
 |_=>none
def Zw(op:BinOp)(κ:IntKind)(a b:Int)(k:AV→Option Y):Option Y:=
 if b<0 then none else
 match op with
 | .shl=>k (.v (.int κ) (κ.wrap (a*2^min b.toNat κ.bits)))
 | .shr=>k (.v (.int κ) (a.fdiv (2^min b.toNat κ.bits)))
 |_=>none
def iu(op:BinOp)(a b:AB_)(k:AV→Option Y):Option Y:=
 match op with
 | .add=>if a.length+b.length≤C7 then k (.v .str (a++b))else none
 | .eql=>k (.v .bool (a==b))
 | .neq=>k (.v .bool (!(a==b)))
 | .lss=>k (.v .bool (Op.bytesLess a b))
 | .leq=>k (.v .bool (Op.bytesLess a b||a==b))
 | .gtr=>k (.v .bool (!(Op.bytesLess a b||a==b)))
 | .geq=>k (.v .bool (!Op.bytesLess a b))
 |_=>none
def qD:TD→AV→AV→Option Bool
 | .int _,.v (.int j) a,.v (.int k) b=>if j=k then some (a==b)else none
 | .bool,.v .bool a,.v .bool b=>some (a==b)
 | .str,.v .str a,.v .str b=>some (a==b)
 |_,_,_=>none
def LV(T:J8):Nat→List ACT→List AV→List AV→Option Bool
 |_,[],[],[]=>some true
 |i,(o,t)::fs,x::l,z::m=>
  if o=i then
   match T.get t with
   |some ti=>match qD ti.desc x z with
    |some p=>(LV T (i+1) fs l m).map fun r=>p&&r
    |none=>none
   |none=>none
  else none
 |_,_,_,_=>none
def J8.fields(T:J8)(t:Nat):Option (List ACT):=
 match(T.get t).map TI.desc with
 |some (.st fs)=>some fs
 |_=>none
def v_(T:J8)(t:Nat)(op:BinOp)(a b:XV)(k:AV→Option Y):Option Y:=
 match a,b with
 | .c (.v (.int j) x),.c (.v (.int j') y)=>
  match op with
  | .shl| .shr=>Zw op j x y k
  |_=>if j=j' then gA op j x y k else none
 | .c (.v .str x),.c (.v .str y)=>iu op x y k
 | .c (.v .bool x),.c (.v .bool y)=>
  match T.get t with
  |some ti=>match ti.desc with
   | .bool=>match op with
    | .eql=>k (.v .bool (x==y))
    | .neq=>k (.v .bool (!(x==y)))
    |_=>none
   |_=>none
  |none=>none
 | .agg l,.agg m=>
  match op,(T.fields t).bind fun fs=>LV T 0 fs l m with
  | .eql,some r=>k (.v .bool r)
  | .neq,some r=>k (.v .bool (!r))
  |_,_=>none
 |_,_=>none
def unX(op:UnOp)(a:XV)(k:AV→Option Y):Option Y:=
 match op,a with
 | .not,.c (.v .bool x)=>k (.v .bool (!x))
 | .neg,.c (.v (.int j) x)=>k (.v (.int j) (j.wrap (0-x)))
 |_,_=>none
def AAX(d b:Nat)(p:List Xb)(s:Xb):((t:Ty)×t.D)→AV
 |⟨.sl r,x⟩=>if d≤1 then .sl true r x else .ref b (p++[s])
 |⟨t,x⟩=>if t.scalar then .v t x else .undef
def yS(s:Bool):((t:Ty)×t.D)→AV
 |⟨.sl r,x⟩=> .sl s r x
 |⟨t,x⟩=>if t.scalar then .v t x else .undef
def d_(f:Nat→Option AV):Nat→Nat→Option (List AV)
 |_,0=>some []
 |j,n+1=>(f j).bind fun x=>(d_ f (j+1) n).map fun l=>x::l
def Je(bx:List Bx):AV→Nat→Option AV
 | .Ik b j,i=>
  match bx[b]? with
  |some (.mem cs)=>cs[j+i]?
  |_=>none
 | .Jn b p r sz j,i=>
  match bx[b]? with
  |some (.sl d q rows)=>if p.length<d then(HE q rows p).bind fun s=>if sz=s.1.n then(BN s.1 (j+i) (rowAt s.1 s.2 r)).map (AAX (d-p.length) b p ⟨r,sz,j+i⟩)else none else none
  |_=>none
 | .P4 s r x j,i=>(BN r (j+i) x).map (yS s)
 |_,_=>none
def mL(T:J8)(t:Nat)(σ:St)(a:XV):Option XV:=
 match a,T.get t with
 | .c a,some ti=>if ti.size=0 then none else if ti.desc.agg then(d_ (Je σ.bx a) 0 ti.size).map .agg else(Je σ.bx a 0).map .c
 |_,_=>none
def eG(d:Nat)(t:Ty)(x:AV)(bx:List Bx):Option (t.D×List Bx×Nat):=
 match x with
 | .v u y=>(Q1 (β:=Ty.D) u t y).map fun y=>(y,bx,d)
 | .nil=>match t with
  | .sl _=>some ([],bx,d)
  |_=>none
 | .sl true r y=>match t with
  | .sl q=>(Q1 (β:=fun r=>List r.D) r q y).map fun y=>(y,bx,1)
  |_=>none
 | .ref b []=>match t with
  | .sl q=>
   match bx[b]? with
   |some (.sl d' r y)=>(Q1 (β:=fun r=>List r.D) r q y).map fun y=>(y,bx.set b .dead,min d (d'+1))
   |_=>none
  |_=>none
 | .win b [] off n=>match t with
  | .sl q=>
   match bx[b]? with
   |some (.sl d' r y)=>(Q1 (β:=fun r=>List r.D) r q ((y.drop off).take n)).map fun y=>(y,bx.set b .dead,min d (d'+1))
   |_=>none
  |_=>none
 |_=>none
def cellsIn(d:Nat):(r:Ty)→List AV→List Bx→Option (r.D×List Bx×Nat)
 | .unit,[],bx=>some ((),bx,d)
 | .cons c r,x::l,bx=>(eG d c x bx).bind fun a=>(cellsIn a.2.2 r l a.2.1).map fun b=>((a.1,b.1),b.2)
 |_,_,_=>none
def AFT(d:Nat)(r:Ty)(x:XV)(bx:List Bx):Option (r.D×List Bx×Nat):=
 match x with
 | .agg l=>cellsIn d r l bx
 | .c x=>eG d r x bx
 |_=>none
def J9(b:Nat):AV→AV
 | .ref b' (s::p)=>if b' =b then .undef else .ref b' (s::p)
 | .win b' (s::p) i n=>if b' =b then .undef else .win b' (s::p) i n
 | .Jn b' (s::p) i sz j=>if b' =b then .undef else .Jn b' (s::p) i sz j
 |x=>x
def tf(b:Nat):XV→XV
 | .c x=> .c (J9 b x)
 | .agg l=> .agg (l.map (J9 b))
 | .M3 l=> .M3 (l.map fun| .inl x=> .inl (J9 b x)| .inr q=> .inr (q.map (J9 b)))
def z8(b:Nat):Bx→Bx
 | .mem cs=> .mem (cs.map (J9 b))
 |x=>x
def St.zg(b:Nat)(σ:St):St:={ tm:=σ.tm.map (tf b),bx:=σ.bx.map (z8 b) }
def Yd(cs:List AV):Nat→List AV→Option (List AV)
 |_,[]=>some cs
 |j,x::l=>if j<cs.length then Yd (cs.set j x) (j+1) l else none
def p7(d:Nat)(r:Ty)(old:r.D)(j:Nat)(x:XV)(bx:List Bx):Option (r.D×List Bx×Nat):=
 match x with
 | .agg l=>if j=0 then cellsIn d r l bx else none
 | .c x=>
  match BN r j old with
  |some ⟨t,_⟩=>(eG d t x bx).bind fun a=>(D5 r j old t a.1).map fun row=>(row,a.2)
  |none=>none
 |_=>none
def XV.plain:XV→Bool
 | .c (.v _ _)=>true
 |_=>false
def hI(σ:St)(a:XV)(x:XV):Option St:=
 match a with
 | .c (.Ik b j)=>
  match σ.bx[b]? with
  |some (.mem cs)=>(Yd cs j x.cells).map fun cs=>{ σ with bx:=σ.bx.set b (.mem cs) }
  |_=>none
 | .c (.Jn b p i sz j)=>
  match σ.bx[b]? with
  |some (.sl d r rows)=>if p.length<d then
   (HE r rows p).bind fun s=>if sz=s.1.n then(p7 (d-p.length) s.1 (rowAt s.1 s.2 i) j x (σ.bx.set b .dead)).bind fun w=>
    (qa r rows p s.1 (s.2.set i w.1)).map fun rows=>
     let σ':St:={ σ with bx:=w.2.1.set b (.sl (w.2.2+p.length) r rows) }
     if x.plain then σ' else σ'.zg b
    else none
   else none
  |_=>none
 |_=>none
def bD(σ:St)(a x:XV):Option (St×XV):=
 match a,x with
 | .c (.Jn b _ _ _ _),.c (.win b' (s::p') off n)=>
  if b' =b then
   match σ.bx[b]? with
   |some (.sl d r rows)=>(HE r rows (s::p')).map fun q=>({ σ with bx:=σ.bx.set b (.sl (min d (p'.length+1)) r rows) },.c (.sl true q.1 ((q.2.drop off).take n)))
   |_=>none
  else none
 |_,_=>some (σ,x)
def L8(σ:St)(a x:XV):Option St:=(bD σ a x).bind fun q=>hI q.1 a q.2
def n_(bx:List Bx)(x:AV):Option ((r:Ty)×(List r.D×List Bx×Nat)):=
 match x with
 | .v .str s=>some ⟨.int .u8,s.map (fun c=>(c.toNat:Int)),bx,9⟩
 | .sl s r rows=>if r.flat then some ⟨r,rows,bx,9⟩else if s then some ⟨r,rows,bx,1⟩else none
 | .ref b []=>
  match bx[b]? with
  |some (.sl d r rows)=>if r.flat then some ⟨r,rows,bx,9⟩else some ⟨r,rows,bx.set b .dead,d⟩
  |_=>none
 | .ref b p=>
  match bx[b]? with
  |some (.sl _ r rows)=>(HE r rows p).bind fun q=>if q.1.flat then some ⟨q.1,q.2,bx,9⟩else none
  |_=>none
 | .win b p off n=>
  match bx[b]? with
  |some (.sl _ r rows)=>(HE r rows p).bind fun q=>if q.1.flat then some ⟨q.1,(q.2.drop off).take n,bx,9⟩else none
  |_=>none
 |_=>none
def nv(bx:List Bx)(x:AV):Option ((r:Ty)×(List r.D×List Bx×Nat)):=
 match x with
 | .ref b []=>
  match bx[b]? with
  |some (.sl d r rows)=>some ⟨r,rows,bx.set b .dead,d⟩
  |_=>none
 | .win b [] off n=>
  match bx[b]? with
  |some (.sl d r rows)=>some ⟨r,(rows.drop off).take n,bx.set b .dead,d⟩
  |_=>none
 |_=>none
def J8.elem(T:J8)(t:Nat):Option TI:=
 match(T.get t).map TI.desc with
 |some (.sl e)=>T.get e
 |_=>none
def J8.Nv(T:J8)(t:Nat)(r:Ty):Bool:=
 match T.elem t with
 |some ti=>decide (ti.size=r.n)&&decide (ti.bytes≤512)&&decide (ti.row=some r)
 |none=>false
def J8.isStr(T:J8)(t:Nat):Bool:=
 match(T.get t).map TI.desc with
 |some .str=>true
 |_=>false
def J8.AIZ(T:J8)(t:Nat):Bool:=
 match(T.get t).map TI.desc with
 |some (.sl _)=>true
 |_=>false
def fQ(T:J8)(ts:Array TypeId)(σ:St)(a x:XV)(k:K Y):Option Y:=
 match ts[0]?,ts[1]? with
 |some t,some u=>
  if T.AIZ u||T.isStr u then
   match a,x with
   | .c .nil,.c y=>
    (n_ σ.bx y).bind fun s=>if T.Nv t s.1 then
     if s.2.1.length≤C7 then k (.c (.ref s.2.2.1.length [])) { σ with bx:=s.2.2.1++[.sl s.2.2.2 s.1 s.2.1] }else none
     else none
   | .c a,.c y=>
    (nv σ.bx a).bind fun d=>if T.Nv t d.1 then(n_ d.2.2.1 y).bind fun s=>
     (Q1 (β:=fun r=>List r.D) s.1 d.1 s.2.1).bind fun rows=>
      if d.2.1.length+rows.length≤C7 then
       k (.c (.ref s.2.2.1.length [])) { σ with bx:=s.2.2.1++[.sl (min d.2.2.2 s.2.2.2) d.1 (d.2.1++rows)] }
      else none
     else none
   |_,_=>none
  else none
 |_,_=>none
def lP(T:J8)(ts:Array TypeId)(σ:St)(x:XV)(k:K Y):Option Y:=
 match ts[0]?,x with
 |some t,.c (.win b [] off n)=>
  match σ.bx[b]? with
  |some (.sl d r rows)=>if T.Nv t r&&(r.flat&&decide (0<r.n))then k (.c .undef) { σ with bx:=σ.bx.set b (.sl d r ((rows.take off++List.replicate n r.z)++rows.drop (off+n))) }else none
  |_=>none
 |_,_=>none
def eS:XV→Option Int
 | .c (.v (.int _) n)=>some n
 |_=>none
def O_(len:Nat)(lo hi:Option XV)(k:Nat→Nat→Option Y):Option Y:=
 let h:Option Int:=match hi with
  |none=>some (len:Int)
  |some x=>eS x
 let l:Option Int:=match lo with
  |none=>some 0
  |some x=>eS x
 match l,h with
 |some l,some h=>if 0≤l∧l≤h∧h≤(len:Int)then k l.toNat h.toNat else none
 |_,_=>none
def lW(T:J8)(t:Nat)(σ:St)(x:XV)(lo hi:Option XV)(k:K Y):Option Y:=
 match x with
 | .c (.v .str s)=>if T.isStr t then O_ s.length lo hi fun l h=>k (.c (.v .str ((s.drop l).take (h-l)))) σ else none
 | .c (.sl s r rows)=>if T.Nv t r then O_ rows.length lo hi fun l h=>k (.c (.sl s r ((rows.drop l).take (h-l)))) σ else none
 | .c (.ref b p)=>
  match N5 σ.bx (.ref b p)with
  |some q=>if T.Nv t q.1 then O_ q.2.length lo hi fun l h=>k (.c (.win b p l (h-l))) σ else none
  |none=>none
 |_=>none
def ll(σ:St)(T:J8)(t:Nat)(x i:XV)(k:K Y):Option Y:=
 match x,eS i with
 | .c (.sl s r rows),some i=>if T.Nv t r then(if 0≤i∧i<(rows.length:Int)then k (.c (.P4 s r (rowAt r rows i.toNat) 0)) σ else none)else none
 | .c (.ref b p),some i=>
  match N5 σ.bx (.ref b p)with
  |some q=>if T.Nv t q.1 then(if 0≤i∧i<(q.2.length:Int)then k (.c (.Jn b p i.toNat q.1.n 0)) σ else none)else none
  |none=>none
 | .c (.win b p off n),some i=>
  match N5 σ.bx (.ref b p)with
  |some q=>if T.Nv t q.1 then(if 0≤i∧i<(n:Int)then k (.c (.Jn b p (off+i.toNat) q.1.n 0)) σ else none)else none
  |none=>none
 |_,_=>none
def uo(T:J8)(t:Nat)(x:XV)(f:Nat):Option XV:=
 match T.get t with
 |some ⟨_,_,.st fs,_⟩=>
  match fs[f]? with
  |some (o,_)=>match x with
   | .c (.Ik b j)=>some (.c (.Ik b (j+o)))
   | .c (.Jn b p i sz j)=>some (.c (.Jn b p i sz (j+o)))
   | .c (.P4 s r y j)=>some (.c (.P4 s r y (j+o)))
   |_=>none
  |none=>none
 |_=>none
def AEw(T:J8)(t:Nat)(x:XV)(f:Nat):Option XV:=
 match T.get t,x with
 |some ⟨_,_,.st fs,_⟩,.agg l=>
  match fs[f]? with
  |some (o,u)=>
   match T.get u with
   |some ti=>if ti.desc.agg then some (.agg ((l.drop o).take ti.size))else(l[o]?).map .c
   |none=>none
  |none=>none
 |_,_=>none
def su(T:J8)(src dst:Nat)(σ:St)(x:XV)(k:K Y):Option Y:=
 match(T.get src).map TI.desc,(T.get dst).map TI.desc,x with
 |some (.int _),some (.int κ),.c (.v (.int _) n)=>k (.c (.v (.int κ) (κ.wrap n))) σ
 |some .str,some .str,.c (.v .str s)=>k (.c (.v .str s)) σ
 |some .str,some (.sl e),.c (.v .str s)=>
  match(T.get e).map TI.desc with
  |some (.int .u8)=>if s.length≤C7 then k (.c (.ref σ.bx.length [])) (σ.new (.sl 9 (.int .u8) (s.map fun c=>(c.toNat:Int))))else none
  |_=>none
 |some (.sl e),some .str,.c x=>
  match(T.get e).map TI.desc,NN σ.bx (.sl (.int .u8)) x with
  |some (.int .u8),some l=>k (.c (.v .str (l.map fun n:Int=>UInt8.ofNat n.toNat))) σ
  |_,_=>none
 |_,_,_=>none
def sZ(T:J8)(t:Nat)(σ:St)(l c:XV)(k:K Y):Option Y:=
 match(T.get t).map TI.desc,eS l,eS c with
 |some (.sl e),some n,some m=>
  match J8.i7 T e with
  |some r=>if T.Nv t r then(if 0≤n∧n≤m∧m≤(C7:Int)then k (.c (.ref σ.bx.length [])) (σ.new (.sl 9 r (List.replicate n.toNat r.z)))else none)else none
  |none=>none
 |_,_,_=>none
def gk(T:J8)(fs:List ACT):List AV→List (Nat×XV)→Option (List AV)
 |cs,[]=>some cs
 |cs,(i,x)::l=>
  match fs[i]? with
  |some (o,u)=>
   match T.get u with
   |some ti=>if x.cells.length=ti.size∧ti.size≠0∧x.cells.all AV.known=true then(Yd cs o x.cells).bind fun cs=>gk T fs cs l else none
   |none=>none
  |none=>none
def Zb(r:Ty):Nat→Nat→List (Nat×XV)→List Bx→Nat→Option (List r.D×List Bx×Nat)
 |_,0,[],bx,d=>some ([],bx,d)
 |i,n+1,(j,x)::l,bx,d=>
  if i=j then(AFT d r x bx).bind fun a=>(Zb r (i+1) n l a.2.1 a.2.2).map fun b=>(a.1::b.1,b.2)else none
 |i,n+1,[],bx,d=>(Zb r (i+1) n [] bx d).map fun b=>(r.z::b.1,b.2)
 |_,0,_::_,_,_=>none
def Rz(T:J8)(t n:Nat)(parts:List (Nat×XV))(σ:St)(k:K Y):Option Y:=
 match(T.get t).map TI.desc with
 |some (.sl e)=>
  match J8.i7 T e with
  |some r=>if T.Nv t r&&decide (n≤1024)&&decide (r.n≤1024)then(Zb r 0 n parts σ.bx 9).bind fun a=>k (.c (.ref a.2.1.length [])) { σ with bx:=a.2.1++[.sl a.2.2 r a.1] }else none
  |none=>none
 |_=>none
def Xc(T:J8)(t:Nat)(σ:St)(x i:XV)(k:K Y):Option Y:=
 match x,eS i with
 | .c (.v .str s),some i=>if T.isStr t then if 0≤i∧i<(s.length:Int)then k (.c (.v (.int .u8) ((s.getD i.toNat 0).toNat:Int))) σ else none else none
 |_,_=>none
def qk(x:XV)(i:Nat):Option XV:=
 match x with
 | .M3 l=>match l[i]? with
  |some (.inl a)=>some (.c a)
  |some (.inr q)=>some (.agg q)
  |none=>none
 |_=>none
def Gt(m:QA):AV→AV
 | .ref b (s::p)=>if m.contains (some b)then .undef else .ref b (s::p)
 | .win b (s::p) i n=>if m.contains (some b)then .undef else .win b (s::p) i n
 | .Jn b (s::p) i sz j=>if m.contains (some b)then .undef else .Jn b (s::p) i sz j
 |x=>x
def Vq(m:QA):XV→XV
 | .c x=> .c (Gt m x)
 | .agg l=> .agg (l.map (Gt m))
 | .M3 l=> .M3 (l.map fun| .inl x=> .inl (Gt m x)| .inr q=> .inr (q.map (Gt m)))
def ADo(m:QA):Bx→Bx
 | .mem cs=> .mem (cs.map (Gt m))
 |x=>x
def St.aM(m:QA)(σ:St):St:=
 match m with
 |[]=>σ
 |_::_=>{ tm:=σ.tm.map (Vq m),bx:=σ.bx.map (ADo m) }
def mO(c:QJ)(args:List XV)(σ:St)(k:K Y):Option Y:=
 if args.length=c.ins.D2.length then
  match c.ins.fit σ.bx.length c.ins.m0 args (c.ins.opens σ.bx)with
  |some (v,m)=>(c.g v).bind fun u=>
   let Jw:=Yv m (c.ins.opens σ.bx).length
   let σ1:=({ σ with bx:=c.ins.opens σ.bx }:St).aM m
   k (fG c.outs.D2 u.1 Jw) { σ1 with bx:=ag Jw 0 c.outs.G6 u.2 (Cx σ1.bx m) }
  |none=>none
 else none
def bj(σ:St)(x:XV)(k:K Y):Option Y:=
 match x with
 | .c (.win b [] off n)=>
  (nv σ.bx (.win b [] off n)).bind fun s=>k (.c (.ref s.2.2.1.length [])) { σ with bx:=s.2.2.1++[.sl s.2.2.2 s.1 s.2.1] }
 |x=>k x σ
def wO(l:List XV):Option ABG:=
 match l with
 |[]=>some []
 | .c (.Ik b 0)::l=>(wO l).map fun r=>b::r
 |_=>none
def uh(big:Bool)(a b:XV)(k:AV→Option Y):Option Y:=
 match a,b with
 | .c (.v (.int j) x),.c (.v (.int j') y)=>
  if j=j' then(if big then k (.v (.int j) (if y>x then y else x))else k (.v (.int j) (if y<x then y else x)))else none
 |_,_=>none
def YR(T:J8)(Γ:Nat→Option QJ)(o:Oper)(σ:St)(k:K Y):Option Y:=
 match o.op with
 | .move x=>k (σ.ev x) σ
 | .assign x=>bj σ (σ.ev x) k
 | .pick c a b=>match σ.ev c with
  | .c (.v .bool x)=>ADt x (σ.ev a) (σ.ev b) σ k
  |_=>none
 | .alloc t=>match J8.i7 T t with
  |some r=>k (.c (.Ik σ.bx.length 0)) (σ.new (.mem (ba r)))
  |none=>none
 | .box t x=>match T.get t with
  |some ti=>if(σ.ev x).cells.length=ti.size∧ti.size≠0∧(σ.ev x).cells.all AV.known=true then k (.c (.Ik σ.bx.length 0)) (σ.new (.mem (σ.ev x).cells))else none
  |none=>none
 | .build t parts=>match T.get t,J8.i7 T t with
  |some ⟨_,_,.st fs,_⟩,some r=>match gk T fs (ba r) (parts.toList.map fun q=>(q.1,σ.ev q.2))with
   |some cs=>k (.agg cs) σ
   |none=>none
  |_,_=>none
 | .buildSlice t n parts=>Rz T t n (parts.toList.map fun q=>(q.1,σ.ev q.2)) σ k
 | .load t a=>match mL T t σ (σ.ev a)with
  |some x=>k x σ
  |none=>none
 | .store t a x=>match T.get t with
  |some ti=>if(σ.ev x).cells.length=ti.size∧ti.size≠0∧(σ.ev x).cells.all AV.known=true then(match L8 σ (σ.ev a) (σ.ev x)with
   |some σ=>k (.c .undef) σ
   |none=>none)else none
  |none=>none
 | .nilCheck x=>match σ.ev x with
  | .c (.Ik b j)=>k (.c (.Ik b j)) σ
  | .c (.Jn b p i sz j)=>k (.c (.Jn b p i sz j)) σ
  | .c (.P4 s r y j)=>k (.c (.P4 s r y j)) σ
  | .c (.fn f Ky)=>k (.c (.fn f Ky)) σ
  |_=>none
 | .binOp op t x y _=>v_ T t op (σ.ev x) (σ.ev y) fun a=>k (.c a) σ
 | .unOp op _ x=>unX op (σ.ev x) fun a=>k (.c a) σ
 | .convert s d x=>su T s d σ (σ.ev x) k
 | .makeFunc (.func f) first Ky=>if first.size=0 then(match wO (Ky.toList.map σ.ev)with
  |some bs=>k (.c (.fn f bs)) σ
  |none=>none)else none
 | .makeSlice t l c=>sZ T t σ (σ.ev l) (σ.ev c) k
 | .slice t x lo hi none=>lW T t σ (σ.ev x) (lo.map σ.ev) (hi.map σ.ev) k
 | .fieldAddr t x f=>match uo T t (σ.ev x) f with
  |some y=>k y σ
  |none=>none
 | .field t x f=>match AEw T t (σ.ev x) f with
  |some y=>k y σ
  |none=>none
 | .indexAddr t x i=>ll σ T t (σ.ev x) (σ.ev i) k
 | .index t x i=>Xc T t σ (σ.ev x) (σ.ev i) k
 | .extract x i=>match qk (σ.ev x) i with
  |some y=>k y σ
  |none=>none
 | .call { callee:= .value f,args,.. }=>match σ.ev f with
  | .c (.fn f Ky)=>match Γ f with
   |some c=>mO c (args.toList.map σ.ev++Ky.map fun b=> .c (.Ik b 0)) σ k
   |none=>none
  | .c (.q7 f rows)=>match Γ f with
   |some c=>mO c (args.toList.map σ.ev++rows.map fun q=> .c (.P4 false q.1 q.2 0)) σ k
   |none=>none
  |_=>none
 | .call { callee:= .builtin .len,args,argTypes }=>match args.toList.map σ.ev,argTypes[0]? with
  |[.c (.v .str s)],some t=>if T.isStr t then k (.c (.v (.int .i64) (s.length:Int))) σ else none
  |[.c x],some t=>if T.AIZ t then(match lenOf σ.bx x with
   |some n=>k (.c (.v (.int .i64) (n:Int))) σ
   |none=>none)else none
  |_,_=>none
 | .call { callee:= .builtin .append,args,argTypes }=>match args.toList.map σ.ev with
  |[a,x]=>fQ T argTypes σ a x k
  |_=>none
 | .call { callee:= .builtin .clear,args,argTypes }=>match args.toList.map σ.ev with
  |[x]=>lP T argTypes σ x k
  |_=>none
 | .call { callee:= .builtin .max,args,.. }=>match args.toList.map σ.ev with
  |[a,x]=>uh true a x fun a=>k (.c a) σ
  |_=>none
 | .call { callee:= .builtin .min,args,.. }=>match args.toList.map σ.ev with
  |[a,x]=>uh false a x fun a=>k (.c a) σ
  |_=>none
 |_=>none
end ops
end Go.Fw
end
section
namespace Go.Fw
section
variable{Y:Type}
structure Z1 where
 T:J8
 Γ:Nat→Option QJ
 hint:Nat→List Nat
def gT(hint:ABG):XV→Bool
 | .c (.Ik b _)=>hint.contains b
 | .c (.Jn b _ _ _ _)=>hint.contains b
 | .c (.P4 _ _ _ _)=>true
 |_=>false
def jI(hint:ABG)(σ:St):Op→Bool
 | .assign x=>match σ.ev x with
  | .c (.win _ [] _ _)=>false
  |_=>true
 | .move _| .pick .. | .nilCheck _| .binOp .. | .unOp .. | .fieldAddr .. | .field .. | .indexAddr .. | .index .. | .extract .. | .build .. =>true
 | .slice _ _ _ _ none=>true
 | .load _ a=>gT hint (σ.ev a)
 | .call { callee:= .builtin .len,.. }=>true
 | .call { callee:= .builtin .max,.. }=>true
 | .call { callee:= .builtin .min,.. }=>true
 |_=>false
def Kl(Γ:Nat→Option QJ)(σ:St):Op→List Nat
 | .store _ a _=>match σ.ev a with
  | .c (.Ik b _)=>[b]
  | .c (.Jn b _ _ _ _)=>[b]
  |_=>[]
 | .call { callee:= .value f,args,.. }=>match σ.ev f with
  | .c (.fn f Ky)=>match Γ f with
   |some c=>match c.ins.fit σ.bx.length c.ins.m0 (args.toList.map σ.ev++Ky.map fun b=> .c (.Ik b 0)) (c.ins.opens σ.bx)with
    |some (_,m)=>m.filterMap id
    |none=>[]
   |none=>[]
  | .c (.q7 f rows)=>match Γ f with
   |some c=>match c.ins.fit σ.bx.length c.ins.m0 (args.toList.map σ.ev++rows.map fun q=> .c (.P4 false q.1 q.2 0)) (c.ins.opens σ.bx)with
    |some (_,m)=>m.filterMap id
    |none=>[]
   |none=>[]
  |_=>[]
 | .call { callee:= .builtin .clear,args,.. }=>match args.toList.map σ.ev with
  |[.c (.win b _ _ _)]=>[b]
  |_=>[]
 |_=>[]
def tt:XV:= .c (.v .bool true)
def ff:XV:= .c (.v .bool false)
def zY(C:Z1)(ops:Array Oper)(o:Oper)(kn:St→Option Y)(σ:St):Option Y:=
 match o.guard with
 |none=>YR C.T C.Γ o σ fun x σ' =>kn (σ'.put o.dst x)
 |some (j,want)=>
  match(ops[j]?).bind (·.dst)with
  |some t=>
   match σ.tm[t]? with
   |some (.c (.v .bool b))=>
    let yes (σ:St):Option Y:=YR C.T C.Γ o σ fun x σ' =>kn (σ'.put o.dst x)
    let no (σ:St):Option Y:=kn (σ.put o.dst (.M3 []))
    cond b ((if want then yes else no) (σ.put (some t) tt)) ((if want then no else yes) (σ.put (some t) ff))
   |some (.M3 [])=>kn (σ.put o.dst (.M3 []))
   |_=>none
  |none=>none
def tQ(C:Z1)(all:Array Oper):List Oper→(St→Option Y)→St→Option Y
 |[],kn,σ=>kn σ
 |o::rest,kn,σ=>zY C all o (fun σ' =>tQ C all rest kn σ') σ
def zx(C:Z1)(ops:Array Oper)(i:Nat)(kn:St→Option Y)(σ:St):Option Y:=
 match ops[i]? with
 |none=>none
 |some o=>zY C ops o kn σ
def kJ(bx:List Bx)(b:Nat):Bool:=
 match bx[b]? with
 |some .dead=>true
 |some _=>false
 |none=>true
def idle(ops:Array Oper)(σ:St)(o:Oper):Bool:=
 match o.guard with
 |none=>false
 |some (j,want)=>
  match(ops[j]?).bind (·.dst)with
  |some t=>
   match σ.tm[t]? with
   |some (.c (.v .bool b))=>b !=want
   |some (.M3 [])=>true
   |_=>false
  |none=>false
def qf(hint:ABG)(ops:Array Oper)(listed:Array Bool)(σ:St)(i:Nat):Bool:=
 match ops[i]? with
 |some o=>(jI hint σ o.op||idle ops σ o)&&Region.free .any ops listed i
 |none=>false
def tZ(f:Nat→List Bool→Option Y):List Nat→List Bool→Option Y
 |[],_=>none
 |[i],ω=>f i ω
 |i::_::_,[]=>f i []
 |i::_::_,true::ω=>f i ω
 |_::j::r,false::ω=>tZ f (j::r) ω
def Ux(C:Z1)(hint:ABG)(ops:Array Oper)(kn:List Bool→St→Option Y):Nat→Array Bool→List Bool→St→Option Y
 |fuel,listed,ω,σ=>
  if hint.all (fun b=> !kJ σ.bx b)then
   match Region.ready .any ops listed with
   |[]=>kn ω σ
   |rs=>
    match fuel with
    |0=>none
    |fuel+1=>
     match rs.find? (qf hint ops listed σ)with
     |some i=>zx C ops i (fun σ' =>Ux C hint ops kn fuel (listed.setIfInBounds i true) ω σ') σ
     |none=>tZ (fun i ω=>
      match ops[i]? with
      |some o=>if(Kl C.Γ σ o.op).all (fun b=> !hint.contains b)then zx C ops i (fun σ' =>Ux C hint ops kn fuel (listed.setIfInBounds i true) ω σ') σ else none
      |none=>none) rs ω
  else none
def first:Code→Nat
 | .region id _ _=>id
 | .seq a _=>first a
 | .cond _ a _=>first a
 | .block _ a=>first a
 | .loop a=>first a
 | .scope a=>first a
 |_=>0
abbrev KN(Y:Type):=List Bool→St→Option Y
def run(C:Z1)(J:Nat→St→Option Y):Code→KN Y→(Nat→KN Y)→KN Y→KN Y
 | .skip,kn,_,_,ω,σ=>kn ω σ
 | .region id ops draw,kn,_,_,ω,σ=>
  if draw then(if Region.noSelect ops then Ux C (C.hint id) ops kn ops.size (Array.replicate ops.size false) ω σ else none)else tQ C ops ops.toList (kn ω) σ
 | .seq a b,kn,kx,kr,ω,σ=>run C J a (fun ω σ=>run C J b kn kx kr ω σ) kx kr ω σ
 | .cond (.tmp t) a b,kn,kx,kr,ω,σ=>
  match σ.tm[t]? with
  |some (.c (.v .bool x))=>cond x (run C J a kn kx kr ω (σ.put (some t) tt)) (run C J b kn kx kr ω (σ.put (some t) ff))
  |_=>none
 | .block id body,kn,kx,kr,ω,σ=>run C J body kn (fun j ω σ=>if j=id then kn ω σ else kx j ω σ) kr ω σ
 | .loop body,_,_,_,_,σ=>J (first body) σ
 | .exit id,_,kx,_,ω,σ=>kx id ω σ
 | .ret,_,_,kr,ω,σ=>kr ω σ
 |_,_,_,_,_,_=>none
def find(C:Z1)(J:Nat→St→Option Y)(ℓ :Nat):Code→KN Y→(Nat→KN Y)→KN Y→Option (KN Y)
 | .seq a b,kn,kx,kr=>
  match find C J ℓ a (fun ω σ=>run C J b kn kx kr ω σ) kx kr with
  |some f=>some f
  |none=>find C J ℓ b kn kx kr
 | .cond _ a b,kn,kx,kr=>
  match find C J ℓ a kn kx kr with
  |some f=>some f
  |none=>find C J ℓ b kn kx kr
 | .block id body,kn,kx,kr=>find C J ℓ body kn (fun j ω σ=>if j=id then kn ω σ else kx j ω σ) kr
 | .loop body,_,kx,kr=>
  if first body= ℓ then some (fun ω σ=>run C J body (fun _ σ=>J ℓ σ) kx kr ω σ)else find C J ℓ body (fun _ σ=>J (first body) σ) kx kr
 |_,_,_,_=>none
def AEV(T:J8)(σ:St):ResultVar→Option XV
 | .tmp t=>σ.tm[t]?
 | .cell a t=>match σ.tm[a]? with
  |some x=>mL T t σ x
  |none=>none
def wF:List XV→Option (List (AV ⊕ List AV))
 |[]=>some []
 | .c x::l=>(wF l).map fun r=> .inl x::r
 | .agg q::l=>(wF l).map fun r=> .inr q::r
 |_=>none
def jN(T:J8)(σ:St)(rs:List ResultVar):Option XV:=
 match rs.mapM (AEV T σ)with
 |some [x]=>some x
 |some l=>(wF l).map .M3
 |none=>none
def UT:Nat→Nat→List BP→QA
 |_,_,[]=>[]
 |i,n,p::l=>(match p with| .gone=>none|_=>if i<n then some i else none)::UT (i+1) n l
def AV.pN(b:Nat)(r:Ty)(rows:List r.D):AV→AV
 | .ref k []=>if k=b then .sl true r rows else .ref k []
 |x=>x
def XV.pN(b:Nat)(r:Ty)(rows:List r.D):XV→XV
 | .c x=> .c (x.pN b r rows)
 |x=>x
def Bx.pN(b:Nat)(r:Ty)(rows:List r.D):Bx→Bx
 | .mem cs=> .mem (cs.map (AV.pN b r rows))
 |x=>x
def St.pN(b:Nat)(σ:St):St:=
 match σ.bx[b]? with
 |some (.sl _ r rows)=>{ tm:=σ.tm.map (XV.pN b r rows),bx:=(σ.bx.set b .dead).map (Bx.pN b r rows) }
 |_=>σ
def HH:List AP→List AV→St→St
 | .sl true _::l,.ref b []::xs,σ=>HH l xs (σ.pN b)
 |_::l,_::xs,σ=>HH l xs σ
 |_,_,σ=>σ
def bg:List (AP ⊕ List AP)→List (AV ⊕ List AV)→St→St
 | .inl p::l,.inl x::xs,σ=>bg l xs (HH [p] [x] σ)
 | .inr p::l,.inr x::xs,σ=>bg l xs (HH p x σ)
 |_::l,_::xs,σ=>bg l xs σ
 |_,_,σ=>σ
def AVB:XP→XV→St→St
 | .c p,.c x,σ=>HH [p] [x] σ
 | .agg l,.agg xs,σ=>HH l xs σ
 | .M3 l,.M3 xs,σ=>bg l xs σ
 |_,_,σ=>σ
def ln(l:List (Nat×XP))(x:XV)(σ:St):St:=
 match l with
 |(_,p)::_=>AVB p x σ
 |[]=>σ
def rB(T:J8)(c:QJ)(rs:List ResultVar)(σ:St):Option c.outs.V:=
 (jN T σ rs).bind fun x=>
  let σ:=ln c.outs.D2 x σ
  (jN T σ rs).bind fun x=>(c.outs.fit σ.bx.length (UT 0 c.ins.G6.length c.outs.G6) [x] (c.outs.opens σ.bx)).map fun q=>q.1
def Ci(C:Z1)(c:QJ)(fn:Func)(J:Nat→St→Option c.outs.V)(ω:List Bool)(v:c.ins.V):Option c.outs.V:=
 match fn.body with
 |some code=>run C J code (fun _=>rB C.T c fn.results.toList) (fun _ _ _=>none) (fun _=>rB C.T c fn.results.toList) ω (c.ins.st fn.ntmps v)
 |none=>none
def Hi(C:Z1)(c:QJ)(fn:Func)(J:Nat→St→Option c.outs.V)(ℓ :Nat)(ω:List Bool)(σ:St):Option c.outs.V:=
 match fn.body with
 |some code=>
  match find C J ℓ code (fun _=>rB C.T c fn.results.toList) (fun _ _ _=>none) (fun _=>rB C.T c fn.results.toList)with
  |some f=>f ω σ
  |none=>none
 |none=>none
def Qa(bs:List BP):List (Nat×XP)→St→St
 |[],σ=>σ
 |(i,.c (.sl true r))::l,σ=>
  match σ.tm[i]? with
  |some (.c x)=>Qa bs l (HH [.sl true r] [x] σ)
  |_=>Qa bs l σ
 |(i,.c (.ptr k _))::l,σ=>
  match bs[k]?,σ.tm[i]? with
  |some (.mem ps),some (.c (.Ik b _))=>
   match σ.bx[b]? with
   |some (.mem cs)=>Qa bs l (HH ps cs σ)
   |_=>Qa bs l σ
  |_,_=>Qa bs l σ
 |_::l,σ=>Qa bs l σ
def AV.sV:AV→Bool
 | .ref _ _| .win _ _ _ _| .sl _ _ _| .nil=>true
 |_=>false
def St.forget(b j:Nat)(σ:St):St:=
 match σ.bx[b]? with
 |some (.mem cs)=>
  match cs[j]? with
  |some x=>if x.sV then{ σ with bx:=σ.bx.set b (.mem (cs.set j (.ref σ.bx.length [])))++[.dead] }else σ
  |none=>σ
 |_=>σ
def Yg(bs:List BP)(b:Nat):Nat→List AP→St→St
 |_,[],σ=>σ
 |j,p::l,σ=>Yg bs b (j+1) l (match p with
  | .ref q=>match bs[q]? with
   |some .gone=>σ.forget b j
   |_=>σ
  |_=>σ)
def df(bs:List BP):List (Nat×XP)→St→St
 |[],σ=>σ
 |(i,p)::l,σ=>df bs l (match p with
  | .c (.ptr k _)=>match bs[k]?,σ.tm[i]? with
   |some (.mem ps),some (.c (.Ik b _))=>Yg bs b 0 ps σ
   |_,_=>σ
  |_=>σ)
def jump(nb:Nat)(s:A6)(f:s.V→Option Y)(σ:St):Option Y:=
 if nb≤s.G6.length then
  let σ:=df s.G6 s.D2 (Qa s.G6 s.D2 σ)
  (s.fit σ.bx.length (UT 0 nb s.G6) σ.tm (s.opens σ.bx)).bind fun q=>f q.1
 else none
end
end Go.Fw
end
section
namespace Go.Fw
def BX(w:World)(b o:Nat)(cs:List Value):Prop:= ∀j v,cs[j]? =some v→w.cell? ⟨b,o+j,none⟩=some v
def Rd(w:World)(B:Nat→Prop):(t:Ty)→List Value→t.D→Prop
 | .int k,vs,x=>vs=[.int k x]
 | .bool,vs,x=>vs=[.bool x]
 | .str,vs,x=>vs=[.string ⟨x.toArray⟩]
 | .sl r,vs,x=> ∃a cap,vs=[.slice a (List.length x) cap]∧List.length x≤cap∧(List.length x=0∨ ∃b o,a=some ⟨b,o,none⟩∧B b∧
  ∀(i:Nat) (y:r.D),x[i]? =some y→ ∃cs,cs.length=r.n∧BX w b (o+i*r.n) cs∧Rd w B r cs y)
 | .unit,vs,_=>vs=[]
 | .cons c r,vs,x=> ∃v l,vs=v::l∧Rd w B c [v] x.1∧Rd w B r l x.2
def vL(fr:ACT)(n:Nat):Prop:= ∀i,i<n→ ¬(fr.1≤i∧i<fr.2)
def mk:Ty→Nat
 | .int .u8=>0
 |_=>1
def Ow(w:World)(S:Nat→Prop):(d:Nat)→(t:Ty)→List Value→t.D→List Nat→Prop
 |0,.sl r,vs,x,F=>Rd w S (.sl r) vs x∧F=[]
 |d+1,.sl r,vs,x,F=> ∃a cap,vs=[.slice a (List.length x) cap]∧List.length x≤cap∧
  ((
   cap=0∧F=[])∨ ∃b o arr ty fr Fs,a=some ⟨b,o,none⟩∧w.heap[b]? =some (.cells arr ty fr)∧o+cap*r.n≤arr.size∧vL fr (arr.size+mk r)∧
   F=b::List.flatten Fs∧Fs.length=List.length x∧
   ∀(i:Nat) (y:r.D) (G:ABG),x[i]? =some y→Fs[i]? =some G→ ∃cs,cs.length=r.n∧BX w b (o+i*r.n) cs∧Ow w S d r cs y G)
 |d,.cons c r,vs,x,F=> ∃v l F1 F2,vs=v::l∧F=F1++F2∧Ow w S d c [v] x.1 F1∧Ow w S d r l x.2 F2
 |_,.unit,vs,_,F=>vs=[]∧F=[]
 |_,.int k,vs,x,F=>vs=[.int k x]∧F=[]
 |_,.bool,vs,x,F=>vs=[.bool x]∧F=[]
 |_,.str,vs,x,F=>vs=[.string ⟨x.toArray⟩]∧F=[]
theorem ku{w B}:∀{t:Ty} {vs x},Rd w B t vs x→vs.length=t.n
 | .int _,_,_,h=>by simp only[Rd]at h;subst h;rfl
 | .bool,_,_,h=>by simp only[Rd]at h;subst h;rfl
 | .str,_,_,h=>by simp only[Rd]at h;subst h;rfl
 | .sl _,_,_,h=>by simp only[Rd]at h;obtain⟨_,_,h,_⟩:=h;subst h;rfl
 | .unit,_,_,h=>by simp only[Rd]at h;subst h;rfl
 | .cons _ _,_,_,h=>by
  simp only[Rd]at h;obtain⟨_,_,rfl,_,h⟩:=h;simp[Ty.n,ku h]
theorem Yc{w S}:∀{d} {t:Ty} {vs x F},Ow w S d t vs x F→vs.length=t.n
 |_,.int _,_,_,_,h=>by simp only[Ow]at h;rw[h.1];rfl
 |_,.bool,_,_,_,h=>by simp only[Ow]at h;rw[h.1];rfl
 |_,.str,_,_,_,h=>by simp only[Ow]at h;rw[h.1];rfl
 |0,.sl _,_,_,_,h=>by grind[Ow,ku]
 |_+1,.sl _,_,_,_,h=>by simp only[Ow]at h;obtain⟨_,_,h,_⟩:=h;subst h;rfl
 |_,.unit,_,_,_,h=>by simp only[Ow]at h;rw[h.1];rfl
 |_,.cons _ _,_,_,_,h=>by
  simp only[Ow]at h;obtain⟨_,_,_,_,rfl,_,_,h⟩:=h;simp[Ty.n,Yc h]
theorem BX.of_block{w w':World}{b o:Nat}{cs:List Value}(h:BX w b o cs)(hb:w'.heap[b]? =w.heap[b]?):BX w' b o cs:=
 fun j v hj=>(World.cell?_of_block (a:=⟨b,o+j,none⟩) hb).trans (h j v hj)
theorem Fu{w w':World}{B B':Nat→Prop}(hB:∀b,B b→B' b)(hw:∀b,B b→w'.heap[b]? =w.heap[b]?):∀{t:Ty} {vs x},Rd w B t vs x→Rd w' B' t vs x
 | .int _,_,_,h=>by grind[Rd]
 | .bool,_,_,h=>by grind[Rd]
 | .str,_,_,h=>by grind[Rd]
 | .unit,_,_,h=>by grind[Rd]
 | .sl r,_,_,h=>by
  simp only[Rd]at h⊢;obtain⟨a,cap,h1,h2,h3⟩:=h;refine⟨a,cap,h1,h2,h3.imp id ?_⟩
  rintro⟨b,o,ha,hb,h⟩
  refine⟨b,o,ha,hB b hb,fun i y hy=> ?_⟩;obtain⟨cs,hl,hc,hr⟩:=h i y hy;exact⟨cs,hl,hc.of_block (hw b hb),Fu hB hw hr⟩
 | .cons _ _,_,_,h=>by
  simp only[Rd]at h⊢;obtain⟨v,l,h1,h2,h3⟩:=h;exact⟨v,l,h1,Fu hB hw h2,Fu hB hw h3⟩
theorem Eb{w w':World}{S S':Nat→Prop}(hS:∀b,S b→S' b)(hw:∀b,S b→w'.heap[b]? =w.heap[b]?):
  ∀{d} {t:Ty} {vs x F},(∀b∈F,w'.heap[b]? =w.heap[b]?)→Ow w S d t vs x F→Ow w' S' d t vs x F
 |_,.int _,_,_,_,_,h=>by grind[Ow]
 |_,.bool,_,_,_,_,h=>by grind[Ow]
 |_,.str,_,_,_,_,h=>by grind[Ow]
 |_,.unit,_,_,_,_,h=>by grind[Ow]
 |0,.sl r,_,_,_,_,h=>by
  grind[Ow,Fu]
 |d+1,.sl r,_,x,F,hF,h=>by
  simp only[Ow]at h⊢;obtain⟨a,cap,h1,h2,h3⟩:=h;refine⟨a,cap,h1,h2,h3.imp id ?_⟩
  rintro⟨b,o,arr,ty,fr,Fs,ha,hb,h4,h5,h6,h7,h⟩
  subst h6;have hbb:=hF b (by simp);refine⟨b,o,arr,ty,fr,Fs,ha,hbb.trans hb,h4,h5,rfl,h7,fun i y G hy hG=> ?_⟩;obtain⟨cs,hl,hc,hr⟩:=h i y G hy hG;refine⟨cs,hl,hc.of_block hbb,Eb hS hw (fun c hc=>hF c ?_) hr⟩;grind[List.mem_cons_of_mem,List.mem_flatten,List.mem_of_getElem?]
 |_,.cons _ _,_,_,_,hF,h=>by
  simp only[Ow]at h⊢;obtain⟨v,l,F1,F2,h1,h2,h3,h4⟩:=h;subst h2;exact⟨v,l,F1,F2,h1,rfl,Eb hS hw (fun c hc=>hF c (by simp[hc])) h3,Eb hS hw (fun c hc=>hF c (by simp[hc])) h4⟩
theorem X_{w:World}{S:Nat→Prop}:∀{d} {t:Ty} {vs x F},Ow w S d t vs x F→Rd w (fun b=>S b∨b∈F) t vs x
 |_,.int _,_,_,_,h=>by grind[Ow,Rd]
 |_,.bool,_,_,_,h=>by grind[Ow,Rd]
 |_,.str,_,_,_,h=>by grind[Ow,Rd]
 |_,.unit,_,_,_,h=>by grind[Ow,Rd]
 |0,.sl r,_,_,_,h=>by
  simp only[Ow]at h;simp_all
 |d+1,.sl r,_,x,F,h=>by
  simp only[Ow]at h;simp only[Rd];obtain⟨a,cap,h1,h2,h3⟩:=h;refine⟨a,cap,h1,h2,?_⟩;rcases h3 with⟨hc,_⟩|⟨b,o,arr,ty,fr,Fs,ha,hb,h4,h5,h6,h7,h⟩
  ·omega
  ·refine .inr ⟨b,o,ha,.inr (by simp[h6]),fun i y hy=> ?_⟩
   have hi:i<Fs.length:=by
    grind
   obtain⟨cs,hl,hc,hr⟩:=h i y Fs[i] hy (AM4 hi);refine⟨cs,hl,hc,Fu ?_ (fun _ _=>rfl) (X_ hr)⟩;grind[List.mem_cons_of_mem,List.mem_flatten,List.getElem_mem]
 |_,.cons _ _,_,_,_,h=>by
  simp only[Ow]at h;simp only[Rd];obtain⟨v,l,F1,F2,h1,h2,h3,h4⟩:=h;subst h2;refine⟨v,l,h1,Fu ?_ (fun _ _=>rfl) (X_ h3),Fu ?_ (fun _ _=>rfl) (X_ h4)⟩
  all_goals grind
theorem KY{w:World}{S:Nat→Prop}:∀{d d'} {t:Ty} {vs x F},d≤d'→Ow w S d' t vs x F→
  ∃F1 F2,F.Perm (F1++F2)∧Ow w (fun b=>S b∨b∈F2) d t vs x F1
 |_,_,.int _,_,_,_,_,h=>by simp only[Ow]at h⊢;simp_all
 |_,_,.bool,_,_,_,_,h=>by simp only[Ow]at h⊢;simp_all
 |_,_,.str,_,_,_,_,h=>by simp only[Ow]at h⊢;simp_all
 |_,_,.unit,_,_,_,_,h=>by simp only[Ow]at h⊢;simp_all
 |0,d',.sl r,_,x,F,_,h=>by
  refine⟨[],F,by simp,?_⟩;simp only[Ow];exact⟨X_ h,trivial⟩
 |d+1,0,.sl r,_,x,F,hd,h=>by omega
 |d+1,d'+1,.sl r,_,x,F,hd,h=>by
  simp only[Ow]at h⊢;obtain⟨a,cap,h1,h2,h3⟩:=h;rcases h3 with⟨hc,hF⟩|⟨b,o,arr,ty,fr,Fs,ha,hb,h4,h5,h6,h7,h⟩
  ·simp_all
  ·have key:∀(n:Nat) (Fs:List ABG) (y:List r.D),Fs.length=n→y.length=n→(∀(i:Nat) (z:r.D) (G:ABG),y[i]? =some z→Fs[i]? =some G→ ∃cs,cs.length=r.n∧BX w b (o+i*r.n) cs∧Ow w S d' r cs z G)→
     ∃(Gs:List ABG) (F2:ABG),Fs.flatten.Perm (Gs.flatten++F2)∧Gs.length=n∧ ∀(i:Nat) (z:r.D) (G:ABG),y[i]? =some z→Gs[i]? =some G→ ∃cs,cs.length=r.n∧BX w b (o+i*r.n) cs∧Ow w (fun b=>S b∨b∈F2) d r cs z G:=by
    intro n
    induction n with
    |zero=>
     simp_all
    |succ n ih=>
     intro Fs y hF hy hh;obtain⟨Fs',G0,rfl⟩:∃l a,Fs=l++[a]:=⟨Fs.dropLast,Fs.getLast (by grind),(List.dropLast_concat_getLast _).symm⟩;obtain⟨y',z0,rfl⟩:∃l a,y=l++[a]:=⟨y.dropLast,y.getLast (by grind),(List.dropLast_concat_getLast _).symm⟩;simp only[AOq,AOX,AQl]at hF hy;obtain⟨Gs,F2,hp,hl,hg⟩:=ih Fs' y' (by omega) (by omega) (fun i z G hz hG=>hh i z G
      (by grind) (by grind))
     obtain⟨cs,Zi,hc,ho⟩:=hh n z0 G0 (by simp_all) (by simp_all);obtain⟨H1,H2,hhp,hho⟩:=KY (d:=d) (d':=d') (by omega) ho;refine⟨Gs++[H1],F2++H2,?_,by simp[hl],?_⟩
     ·grind
     ·intro i z G hz hG
      by_cases hi:i<n
      ·rw[AOw (by omega)]at hz hG
       obtain⟨cs,e1,e2,e3⟩:=hg i z G hz hG;exact⟨cs,e1,e2,Eb (by grind) (fun _ _=>rfl) (fun _ _=>rfl) e3⟩
      ·have:i=n:=by
        grind
       subst this;rw[AP3 (by omega)]at hz hG;simp[show i-y'.length=0 by omega,show i-Gs.length=0 by omega]at hz hG;subst hz hG;exact⟨cs,Zi,hc,Eb (by grind) (fun _ _=>rfl) (fun _ _=>rfl) hho⟩
   obtain⟨Gs,F2,hp,hl,hg⟩:=key _ Fs x h7 rfl h;refine⟨b::Gs.flatten,F2,?_,a,cap,h1,h2,.inr ⟨b,o,arr,ty,fr,Gs,ha,hb,h4,h5,rfl,hl,hg⟩⟩;simp_all
 |d,d',.cons _ _,_,_,_,hd,h=>by
  simp only[Ow]at h⊢;obtain⟨v,l,F1,F2,h1,h2,h3,h4⟩:=h;obtain⟨A1,A2,pa,oa⟩:=KY hd h3;obtain⟨B1,B2,pb,ob⟩:=KY hd h4;refine⟨A1++B1,A2++B2,?_,v,l,A1,B1,h1,rfl,Eb (by grind) (fun _ _=>rfl) (fun _ _=>rfl) oa,Eb (by grind) (fun _ _=>rfl) (fun _ _=>rfl) ob⟩;grind
def RB(w:World):(t:Ty)→List Value→t.D→Nat→Prop
 | .sl r,vs,x,c=> ∃b o len cap,vs=[.slice (some ⟨b,o,none⟩) len cap]∧0<List.length x∧
  (c=b∨ ∃(i:Nat) (y:r.D) (cs:List Value),x[i]? =some y∧cs.length=r.n∧BX w b (o+i*r.n) cs∧RB w r cs y c)
 | .cons c r,vs,x,d=> ∃v l,vs=v::l∧(RB w c [v] x.1 d∨RB w r l x.2 d)
 |_,_,_,_=>False
theorem BX.unique{w:World}{b o:Nat}{cs ds:List Value}(h:BX w b o cs)(k:BX w b o ds)(hl:cs.length=ds.length):cs=ds:=by
 apply List.ext_getElem hl;intro i h1 h2;have e1:=h i _ (AM4 h1);have e2:=k i _ (AM4 h2);simp_all
theorem ua{w:World}{B:Nat→Prop}{c:Nat}:∀{t:Ty} {vs x},Rd w B t vs x→RB w t vs x c→B c
 | .int _,_,_,_,h=>by simp[RB]at h
 | .bool,_,_,_,h=>by simp[RB]at h
 | .str,_,_,_,h=>by simp[RB]at h
 | .unit,_,_,_,h=>by simp[RB]at h
 | .sl r,_,x,h,k=>by
  simp only[Rd]at h;simp only[RB]at k;obtain⟨a,cap,rfl,_,h⟩:=h;obtain⟨b,o,len,cap',e,hl,k⟩:=k;simp only[AR6,Value.slice.injEq,ASq]at e;obtain⟨rfl,rfl,rfl⟩:=e;rcases h with h|⟨b',o',e,hb,h⟩
  ·omega
  simp only[ANB,Addr.mk.injEq,ASq]at e;obtain⟨rfl,rfl⟩:=e;rcases k with rfl|⟨i,y,cs,hy,Zi,hca,k⟩
  ·omega
  ·obtain⟨ds,d1,d2,d3⟩:=h i y hy
   have:=hca.unique d2 (by omega);subst this;exact ua d3 k
 | .cons _ _,_,_,h,k=>by
  simp only[Rd]at h;simp only[RB]at k;obtain⟨v,l,rfl,h1,h2⟩:=h;obtain⟨v',l',e,k⟩:=k;cases e;exact k.elim (ua h1) (ua h2)
theorem oD{w w':World}{c:Nat}:∀{t:Ty} {vs x},(∀d,RB w t vs x d→w'.heap[d]? =w.heap[d]?)→RB w t vs x c→RB w' t vs x c
 | .int _,_,_,_,h=>by simp[RB]at h
 | .bool,_,_,_,h=>by simp[RB]at h
 | .str,_,_,_,h=>by simp[RB]at h
 | .unit,_,_,_,h=>by simp[RB]at h
 | .sl r,_,x,h,k=>by
  simp only[RB]at h k⊢;obtain⟨b,o,len,cap,e,hl,k⟩:=k;refine⟨b,o,len,cap,e,hl,?_⟩;rcases k with rfl|⟨i,y,cs,hy,Zi,hca,k⟩
  ·omega
  ·have hb:=h b ⟨b,o,len,cap,e,hl,.inl rfl⟩
   exact .inr ⟨i,y,cs,hy,Zi,hca.of_block hb,oD (fun d hd=>h d ⟨b,o,len,cap,e,hl,.inr ⟨i,y,cs,hy,Zi,hca,hd⟩⟩) k⟩
 | .cons _ _,_,_,h,k=>by
  simp only[RB]at h k⊢;obtain⟨v,l,e,k⟩:=k;refine⟨v,l,e,k.elim (fun k=> .inl (oD (fun d hd=>h d ⟨v,l,e,.inl hd⟩) k)) (fun k=> .inr (oD (fun d hd=>h d ⟨v,l,e,.inr hd⟩) k))⟩
end Go.Fw
end
section
namespace Go.Fw
def CW{α β:Type}(R:α→β→Prop):List α→List β→Prop
 |[],[]=>True
 |a::l,b::m=>R a b∧CW R l m
 |_,_=>False
theorem CW.len{α β:Type}{R:α→β→Prop}:∀{l:List α} {m:List β},CW R l m→l.length=m.length
 |[],[],_=>rfl
 |_::_,_::_,h=>by simp[CW.len h.2]
theorem CW.get{α β:Type}{R:α→β→Prop}:∀{l:List α} {m:List β} {i:Nat} {a:α},CW R l m→l[i]? =some a→ ∃b,m[i]? =some b∧R a b
 |_::_,_::_,0,a,h,e=>by simp at e;subst e;exact⟨_,rfl,h.1⟩
 |_::_,_::_,i+1,a,h,e=>by
  obtain⟨b,hb,hr⟩:=CW.get (i:=i) h.2 (by simpa using e);simp_all
 |[],[],_,_,_,e=>by simp at e
theorem CW.imp{α β:Type}{R S:α→β→Prop}(h:∀a b,R a b→S a b):∀{l:List α} {m:List β},CW R l m→CW S l m
 |[],[],_=>trivial
 |_::_,_::_,k=>⟨h _ _ k.1,CW.imp h k.2⟩
structure Env where
 IE:Nat→Nat
 IF:Nat→Value
 T:Nat→Prop
 S:Nat→Prop
def JH(w:World):Value→List Xb→Option Value
 |h,[]=>some h
 | .slice (some a) _ _,s::p=>
  match w.cell? ⟨a.block,a.off+s.i*s.sz+s.j,none⟩with
  |some h=>JH w h p
  |none=>none
 |_,_::_=>none
def DE:(r:Ty)→List r.D→List Xb→Prop
 |_,_,[]=>True
 |r,rows,s::p=>s.i<rows.length∧s.sz=r.n∧
  match BN r s.j (rowAt r rows s.i)with
  |some ⟨.sl q,x⟩=>DE q x p
  |_=>False
def WH(sz off n:Nat)(a:Option Addr)(cap:Nat):Value:=
 .slice (if cap=off then a else a.map (·.add (off*sz))) n (cap-off)
def isSlice:Value→Bool
 | .slice .. =>true
 |_=>false
def cy:Value→Bool
 | .pointer (some ⟨_,_,none⟩)=>true
 |_=>false
def RA(E:Env)(w:World)(q:(r:Ty)×r.D)(p:Value):Prop:= ∃bb o cs,p= .pointer (some ⟨bb,o,none⟩)∧E.T bb∧cs.length=q.1.n∧BX w bb o cs∧Rd w E.T q.1 cs q.2
def VR(E:Env)(w:World)(vw:List Bx):AV→Value→Prop
 | .v t x,v=>t.scalar=true∧Rd w (fun _=>False) t [v] x
 | .sl s r x,v=>Rd w (if s then E.S else E.T) (.sl r) [v] x
 | .nil,v=>v= .slice none 0 0
 | .ref b p,v=>isSlice v=true∧match vw[b]? with
  |some (.sl _ r rows)=>DE r rows p∧(∃q,HE r rows p=some q)∧JH w (E.IF b) p=some v
  |some _=>True
  |none=>False
 | .win b p off n,v=>isSlice v=true∧match vw[b]? with
  |some (.sl _ r rows)=>DE r rows p∧ ∃q ys a len cap,HE r rows p=some ⟨q,ys⟩∧off+n≤List.length ys∧JH w (E.IF b) p=some (.slice a len cap)∧v=WH q.n off n a cap
  |some _=>True
  |none=>False
 | .Ik b j,v=>b<vw.length∧v= .pointer (some ⟨E.IE b,j,none⟩)
 | .Jn b p i sz j,v=>cy v=true∧match vw[b]? with
  |some (.sl _ r rows)=>DE r rows p∧ ∃q ys bb o len cap,HE r rows p=some ⟨q,ys⟩∧i<List.length ys∧JH w (E.IF b) p=some (.slice (some ⟨bb,o,none⟩) len cap)∧v= .pointer (some ⟨bb,o+i*sz+j,none⟩)
  |some _=>True
  |none=>False
 | .P4 s r x j,v=> ∃bb o cs,v= .pointer (some ⟨bb,o+j,none⟩)∧(if s then E.S else E.T) bb∧cs.length=r.n∧BX w bb o cs∧Rd w (if s then E.S else E.T) r cs x
 | .fn f Ky,v=>(∀b∈Ky,b<vw.length)∧v= .func (.func f) #[] (Ky.map fun b=>Value.pointer (some ⟨E.IE b,0,none⟩)).toArray
 | .q7 f rows,v=> ∃ps:List Value,v= .func (.func f) #[] ps.toArray∧CW (RA E w) rows ps
 | .xd,v=>v= .pointer none
 | .undef,_=>True
def jj(E:Env)(w:World)(vw:List Bx)(l:List AV)(vs:List Value):Prop:=CW (VR E w vw) l vs
def TR(E:Env)(w:World)(vw:List Bx):AV ⊕ List AV→Value→Prop
 | .inl x,v=>VR E w vw x v
 | .inr q,v=> ∃vs,v= .agg vs∧jj E w vw q vs.toList
def XR(E:Env)(w:World)(vw:List Bx):XV→Value→Prop
 | .c x,v=>VR E w vw x v
 | .agg l,v=> ∃vs,v= .agg vs∧jj E w vw l vs.toList
 | .M3 l,v=> ∃vs,v= .tuple vs∧CW (TR E w vw) l vs.toList
def ou(E:Env)(w:World)(vw:List Bx)(k:Nat):Bx→List Nat→Prop
 | .mem cs,F=>F=[E.IE k]∧ ∃arr ty fr,w.heap[E.IE k]? =some (.cells arr ty fr)∧vL fr (arr.size+1)∧jj E w vw cs arr.toList
 | .sl d r rows,F=>1≤d∧Ow w E.S d (.sl r) [E.IF k] rows F
 | .dead,F=>F=[]
structure Sep (E:Env) (w:World) (F:ABG):Prop where
 nodup:F.Nodup
 free:∀c∈F,¬E.T c
 lt:∀c∈F,c<w.heap.size
 st:∀c,E.S c→E.T c
 dV:∀c,E.T c→c<w.heap.size
def N9(E:Env)(w:World)(vw bx:List Bx)(Fs:List ABG):Prop:=
 Fs.length=bx.length∧ ∀k B F,bx[k]? =some B→Fs[k]? =some F→ou E w vw k B F
def C8(E:Env)(w:World)(vw bx:List Bx)(G:ABG):Prop:=
 ∃Fs,N9 E w vw bx Fs∧Sep E w (Fs.flatten++G)
structure Le (E E':Env):Prop where
 IE:E'.IE=E.IE
 IF:E'.IF=E.IF
 T:∀c,E.T c→E'.T c
 S:∀c,E.S c→E'.S c
 Tof:∀c,E'.T c→E.T c∨E'.S c
 zt:∀c,E'.S c→E.S c∨ ¬E.T c
theorem Le.refl(E:Env):Le E E:=⟨rfl,rfl,fun _ h=>h,fun _ h=>h,fun _ h=> .inl h,fun _ h=> .inl h⟩
theorem Le.trans{E E' E'':Env}(h:Le E E')(k:Le E' E''):Le E E'':=
 ⟨k.IE.trans h.IE,k.IF.trans h.IF,fun c hc=>k.T c (h.T c hc),fun c hc=>k.S c (h.S c hc),
  fun c hc=>(k.Tof c hc).elim (fun h' =>(h.Tof c h').imp id (k.S c)) .inr,
  fun c hc=>(k.zt c hc).elim (h.zt c) (fun h' => .inr fun ht=>h' (h.T c ht))⟩
theorem fB{w B}:∀{r:Ty} {cs x j t y},Rd w B r cs x→BN r j x=some ⟨t,y⟩→ ∃v,cs[j]? =some v∧Rd w B t [v] y
 | .cons c r,cs,x,0,t,y,h,e=>by
  simp only[Rd]at h;obtain⟨v,l,rfl,h1,h2⟩:=h;simp only[BN,ANB,AOQ]at e;grind
 | .cons c r,cs,x,j+1,t,y,h,e=>by
  simp only[Rd]at h;obtain⟨v,l,rfl,h1,h2⟩:=h;simp only[BN]at e;obtain⟨u,hu,hr⟩:=fB h2 e;simp_all
 | .int k,cs,x,0,t,y,h,e=>by
  simp only[BN,ANB,AOQ]at e;obtain⟨rfl,e⟩:=e;obtain rfl:=ASX e;simp only[Rd]at h;subst h;exact⟨_,rfl,by rfl⟩
 | .bool,cs,x,0,t,y,h,e=>by
  simp only[BN,ANB,AOQ]at e;obtain⟨rfl,e⟩:=e;obtain rfl:=ASX e;simp only[Rd]at h;subst h;exact⟨_,rfl,by rfl⟩
 | .str,cs,x,0,t,y,h,e=>by
  simp only[BN,ANB,AOQ]at e;obtain⟨rfl,e⟩:=e;obtain rfl:=ASX e;simp only[Rd]at h;subst h;exact⟨_,rfl,by rfl⟩
 | .sl r,cs,x,0,t,y,h,e=>by
  simp only[BN,ANB,AOQ]at e;obtain⟨rfl,e⟩:=e;obtain rfl:=ASX e;have h':=h;simp only[Rd]at h;grind
 | .unit,_,_,_,_,_,_,e=>by simp[BN]at e
 | .int _,_,_,_+1,_,_,_,e=>by simp[BN]at e
 | .bool,_,_,_+1,_,_,_,e=>by simp[BN]at e
 | .str,_,_,_+1,_,_,_,e=>by simp[BN]at e
 | .sl _,_,_,_+1,_,_,_,e=>by simp[BN]at e
theorem RX{r:Ty}{rows:List r.D}{i:Nat}(h:i<rows.length):rows[i]? =some (rowAt r rows i):=by
 simp[rowAt,h]
theorem oE{w:World}{B:Nat→Prop}:∀{p:List Xb} {r:Ty} {h:Value} {rows:List r.D} {q:Ty} {ys:List q.D},
  Rd w B (.sl r) [h] rows→DE r rows p→HE r rows p=some ⟨q,ys⟩→
  ∃h',(∀w':World,(∀b,B b→w'.heap[b]? =w.heap[b]?)→JH w' h p=some h')∧Rd w B (.sl q) [h'] ys
 |[],r,h,rows,q,ys,hr,_,hg=>by
  simp only[HE,ANB,AOQ]at hg;obtain⟨rfl,e⟩:=hg;obtain rfl:=ASX e;exact⟨h,fun w' _=>by rfl,hr⟩
 |s::p,r,h,rows,q,ys,hr,hp,hg=>by
  simp only[DE]at hp;obtain⟨hi,P5,hp⟩:=hp;simp only[HE]at hg;simp only[Rd]at hr;obtain⟨a,cap,hh,_,hr⟩:=hr;obtain rfl:=(List.cons.inj hh).1;rcases hr with hr|⟨b,o,rfl,hb,hr⟩
  ·omega
  obtain⟨cs,hl,hc,hrow⟩:=hr s.i _ (RX hi);split at hg
  ·rename_i q' x' gp
   rw[gp]at hp;obtain⟨v,hv,hrv⟩:=fB hrow gp;obtain⟨h',hh',ZN⟩:=oE hrv hp hg;refine⟨h',fun w' rp=> ?_,ZN⟩;simp only[JH];have bN:w'.cell? ⟨b,o+s.i*s.sz+s.j,none⟩=some v:=by
    rw[P5];exact(World.cell?_of_block (a:=⟨b,_,none⟩) (rp b hb)).trans (hc _ _ hv)
   simp_all
  simp_all
theorem DA{w:World}{h:Value}:JH w h []=some h:=by rfl
structure Tg (E:Env) (w:World) (vw:List Bx) (E':Env) (w':World) (vw':List Bx):Prop where
 len:vw.length≤vw'.length
 IE:∀b,b<vw.length→E'.IE b=E.IE b
 T:∀b,E.T b→E'.T b
 S:∀b,E.S b→E'.S b
 st:∀b,E.S b→E.T b
 heap:∀b,E.T b→w'.heap[b]? =w.heap[b]?
 box:∀b d r rows,b<vw.length→vw'[b]? =some (.sl d r rows)→ ∃d0 TH,vw[b]? =some (.sl d0 r TH)∧
  ∀p,DE r TH p→ ∀q ys,HE r TH p=some ⟨q,ys⟩→DE r rows p∧(∃vC,HE r rows p=some ⟨q,vC⟩∧List.length vC=List.length ys)∧
   ∀h,JH w (E.IF b) p=some h→JH w' (E'.IF b) p=some h
theorem QB{α:Type}{l l':List α}{b:Nat}{x:α}(h:l.length≤l'.length)(e:l[b]? =some x):∃y,l'[b]? =some y:=
 ⟨l'[b]'(ASn (ANF.1 e).1 h),AM4 _⟩
theorem GS{E E':Env}{w w':World}{vw vw':List Bx}(k:Tg E w vw E' w' vw'):∀{x:AV} {v:Value},VR E w vw x v→VR E' w' vw' x v:=by
 intro x v h;cases x with
 |v t x=>exact⟨h.1,Fu (fun _ h=>h) (fun _ h=>h.elim) h.2⟩
 |sl s r x=>
  simp only[VR]at h⊢;cases s with
  |false=>exact Fu k.T k.heap (by simp_all)
  |true=>exact Fu k.S (fun b hb=>k.heap b (k.st b hb)) (by simp_all)
 |nil=>exact h
 |ref b p=>
  simp only[VR]at h⊢;obtain⟨h0,h⟩:=h;refine⟨h0,?_⟩;cases e:vw[b]? with
  |none=>simp_all
  |some B=>
   rw[e]at h;have G4:=(ANF.1 e).1;obtain⟨B',e'⟩:=QB k.len e;rw[e'];cases B' with
   |mem cs=>trivial
   |dead=>trivial
   |sl d r rows=>
    obtain⟨d0,TH,e0,hk⟩:=k.box b d r rows G4 e';grind
 |win b p off n=>
  simp only[VR]at h⊢;obtain⟨h0,h⟩:=h;refine⟨h0,?_⟩;cases e:vw[b]? with
  |none=>simp_all
  |some B=>
   rw[e]at h;have G4:=(ANF.1 e).1;obtain⟨B',e'⟩:=QB k.len e;rw[e'];cases B' with
   |mem cs=>trivial
   |dead=>trivial
   |sl d r rows=>
    obtain⟨d0,TH,e0,hk⟩:=k.box b d r rows G4 e';grind
 |Ik b j=>exact⟨ASn h.1 k.len,by rw[h.2,k.IE b h.1]⟩
 |Jn b p i sz j=>
  simp only[VR]at h⊢;obtain⟨h0,h⟩:=h;refine⟨h0,?_⟩;cases e:vw[b]? with
  |none=>simp_all
  |some B=>
   rw[e]at h;have G4:=(ANF.1 e).1;obtain⟨B',e'⟩:=QB k.len e;rw[e'];cases B' with
   |mem cs=>trivial
   |dead=>trivial
   |sl d r rows=>
    obtain⟨d0,TH,e0,hk⟩:=k.box b d r rows G4 e';grind
 |P4 s r x j=>
  simp only[VR]at h⊢;obtain⟨bb,o,cs,hv,hb,hl,hc,hr⟩:=h;cases s with
  |false=>exact⟨bb,o,cs,hv,k.T bb (by simp_all),hl,hc.of_block (k.heap bb (by simp_all)),Fu k.T k.heap (by simp_all)⟩
  |true=>exact⟨bb,o,cs,hv,k.S bb (by simp_all),hl,hc.of_block (k.heap bb (k.st bb (by simp_all))),Fu k.S (fun b hb=>k.heap b (k.st b hb)) (by simp_all)⟩
 |fn f Ky=>
  refine⟨fun b hb=>ASn (h.1 b hb) k.len,?_⟩;rw[h.2];congr 2;exact AS5 fun b hb=>by rw[k.IE b (h.1 b hb)]
 |q7 f rows=>
  obtain⟨ps,hv,h⟩:=h;exact⟨ps,hv,h.imp fun q p ⟨bb,o,cs,h1,h2,h3,h4,h5⟩=>⟨bb,o,cs,h1,k.T bb h2,h3,h4.of_block (k.heap bb h2),Fu k.T k.heap h5⟩⟩
 |xd=>exact h
 |undef=>trivial
theorem PX{E E':Env}{w w':World}{vw vw':List Bx}(k:Tg E w vw E' w' vw'):∀{x:XV} {v:Value},XR E w vw x v→XR E' w' vw' x v
 | .c _,_,h=>GS k h
 | .agg _,_,⟨vs,hv,h⟩=>⟨vs,hv,h.imp fun _ _ h=>GS k h⟩
 | .M3 l,_,⟨vs,hv,h⟩=>⟨vs,hv,h.imp fun
  | .inl _,_,h=>GS k h
  | .inr _,_,⟨ws,hw,h⟩=>⟨ws,hw,h.imp fun _ _ h=>GS k h⟩⟩
theorem Tg.refl{E:Env}{w:World}{vw:List Bx}(st:∀b,E.S b→E.T b):Tg E w vw E w vw:=
 ⟨AQQ _,fun _ _=>rfl,fun _ h=>h,fun _ h=>h,st,fun _ _=>rfl,fun b d r rows _ h=>⟨d,rows,h,fun p hp q ys hg=>⟨hp,⟨ys,hg,rfl⟩,fun _ h=>h⟩⟩⟩
theorem Tg.trans{E E' E'':Env}{w w' w'':World}{vw vw' AWb:List Bx}(k:Tg E w vw E' w' vw')(k':Tg E' w' vw' E'' w'' AWb):Tg E w vw E'' w'' AWb where
 len:=ASY k.len k'.len
 IE:=fun b hb=>(k'.IE b (ASn hb k.len)).trans (k.IE b hb)
 T:=fun b h=>k'.T b (k.T b h)
 S:=fun b h=>k'.S b (k.S b h)
 st:=k.st
 heap:=fun b h=>(k'.heap b (k.T b h)).trans (k.heap b h)
 box:=fun b d r rows hb h=>by
  obtain⟨d1,AMb,h1,k1⟩:=k'.box b d r rows (ASn hb k.len) h;obtain⟨d0,TH,h0,k0⟩:=k.box b d1 r AMb hb h1;grind
theorem tq{w w':World}{S:Nat→Prop}{d:Nat}{r:Ty}{h:Value}{rows:List r.D}{F:ABG}(ho:Ow w S d (.sl r) [h] rows F)
  (hS:∀b,S b→w'.heap[b]? =w.heap[b]?) (hF:∀b∈F,w'.heap[b]? =w.heap[b]?) {p:List Xb} (hp:DE r rows p) {q:Ty} {ys:List q.D} (hg:HE r rows p=some ⟨q,ys⟩)
  {h':Value} (hh:JH w h p=some h'):JH w' h p=some h':=by
 obtain⟨h1,k,_⟩:=oE (X_ ho) hp hg;grind
end Go.Fw
end
section
namespace Go.Fw
theorem CW.set{α β:Type}{R:α→β→Prop}:∀{l:List α} {m:List β} {i:Nat} {a:α} {b:β},CW R l m→R a b→CW R (l.set i a) (m.set i b)
 |[],[],_,_,_,_,_=>trivial
 |_::_,_::_,0,_,_,h,r=>⟨r,h.2⟩
 |_::_,_::_,i+1,_,_,h,r=>⟨h.1,CW.set h.2 r⟩
theorem CW.append{α β:Type}{R:α→β→Prop}:∀{l:List α} {m:List β} {l':List α} {m':List β},CW R l m→CW R l' m'→CW R (l++l') (m++m')
 |[],[],_,_,_,h=>h
 |_::_,_::_,_,_,h,k=>⟨h.1,CW.append h.2 k⟩
theorem CW.Lk{α β γ:Type}{R:α→β→Prop}{S:γ→β→Prop}(f:α→γ)(h:∀a b,R a b→S (f a) b):∀{l:List α} {m:List β},CW R l m→CW S (l.map f) m
 |[],[],_=>trivial
 |_::_,_::_,k=>⟨h _ _ k.1,CW.Lk f h k.2⟩
theorem CW.drop{α β:Type}{R:α→β→Prop}:∀{l:List α} {m:List β} (n:Nat),CW R l m→CW R (l.drop n) (m.drop n)
 |_,_,0,h=>h
 |[],[],_+1,_=>trivial
 |_::_,_::_,n+1,h=>CW.drop n h.2
theorem CW.take{α β:Type}{R:α→β→Prop}:∀{l:List α} {m:List β} (n:Nat),CW R l m→CW R (l.take n) (m.take n)
 |[],[],0,_=>trivial
 |_::_,_::_,0,_=>trivial
 |[],[],_+1,_=>trivial
 |_::_,_::_,n+1,h=>⟨h.1,CW.take n h.2⟩
structure dZ (E0:Env) (w0:World) (E:Env) (w:World):Prop where
 T:∀c,E0.T c→E.T c
 S:∀c,E0.S c→E.S c
 Tof:∀c,E.T c→E0.T c∨E.S c
 zt:∀c,E.S c→E0.S c∨ ¬E0.T c
 heap:∀c,E0.T c→w.heap[c]? =w0.heap[c]?
 os:w.os=w0.os
 tape:w.tape=w0.tape
 output:w.output=w0.output
 size:w0.heap.size≤w.heap.size
theorem dZ.refl(E:Env)(w:World):dZ E w E w:=⟨fun _ h=>h,fun _ h=>h,fun _ h=> .inl h,fun _ h=> .inl h,fun _ _=>rfl,rfl,rfl,rfl,AQQ _⟩
theorem dZ.trans{E E' E'':Env}{w w' w'':World}(h:dZ E w E' w')(k:dZ E' w' E'' w''):dZ E w E'' w'':=
 ⟨fun c hc=>k.T c (h.T c hc),fun c hc=>k.S c (h.S c hc),fun c hc=>(k.Tof c hc).elim (fun h' =>(h.Tof c h').imp id (k.S c)) .inr,
  fun c hc=>(k.zt c hc).elim (h.zt c) (fun h' => .inr fun ht=>h' (h.T c ht)),fun c hc=>(k.heap c (h.T c hc)).trans (h.heap c hc),
  k.os.trans h.os,k.tape.trans h.tape,k.output.trans h.output,ASY h.size k.size⟩
theorem Le.base{E E':Env}(h:Le E E')(w:World):dZ E w E' w:=⟨h.T,h.S,h.Tof,h.zt,fun _ _=>rfl,rfl,rfl,rfl,AQQ _⟩
def xQ(E:Env)(w:World)(k:Nat):Bx→Nat→Prop
 | .mem _,c=>c=E.IE k
 | .sl _ r rows,c=>RB w (.sl r) [E.IF k] rows c
 | .dead,_=>False
def Vy:Bx→Bx→Prop
 | .mem _,.mem _=>True
 | .sl _ r x,.sl _ q y=>(⟨r,x⟩:(r:Ty)×List r.D)=⟨q,y⟩
 |_,_=>False
structure SD (t:ABG) (E0:Env) (bx0:List Bx) (w0:World) (E:Env) (bx:List Bx) (w:World):Prop where
 base:dZ E0 w0 E w
 len:bx0.length≤bx.length
 ids:∀b,b<bx0.length→E.IE b=E0.IE b∧E.IF b=E0.IF b
 dead:∀b:Nat,bx0[b]? =some Bx.dead→bx[b]? =some Bx.dead
 frame:∀(n:Nat) B B',n∉t→bx0[n]? =some B→bx[n]? =some B'→B'≠ .dead→Vy B B'∧ ∀c,xQ E0 w0 n B c→w.heap[c]? =w0.heap[c]?
theorem SD.any{E E':Env}{bx RI:List Bx}{w w':World}(h:SD [] E bx w E' RI w'){t:ABG}:SD t E bx w E' RI w':=
 ⟨h.base,h.len,h.ids,h.dead,fun n B B' _=>h.frame n B B' (by simp)⟩
theorem Vy.refl{B:Bx}(h:B≠ .dead):Vy B B:=by cases B<;>simp_all[Vy]
theorem SD.refl(t:ABG)(E:Env)(bx:List Bx)(w:World):SD t E bx w E bx w:=⟨dZ.refl E w,AQQ _,fun _ _=>⟨rfl,rfl⟩,fun _ h=>h,fun n B B' _ h h' hd=>by
 rw[h]at h';cases h';exact⟨Vy.refl hd,fun _ _=>rfl⟩⟩
theorem fN{E:Env}{w:World}{vw:List Bx}{k:Nat}{B:Bx}{F:ABG}{c:Nat}(h:ou E w vw k B F)(hc:xQ E w k B c):E.S c∨c∈F:=by
 cases B with
 |mem cs=>obtain⟨rfl,_⟩:=h;grind[xQ]
 |sl d r rows=>exact ua (X_ h.2) hc
 |dead=>exact hc.elim
structure Rel (E:Env) (σ:St) (a:Act) (w:World):Prop where
 OO:a.defers=[]
 tm:CW (XR E w σ.bx) σ.tm a.tmps.toList
 bx:C8 E w σ.bx σ.bx []
theorem Rel.put{E:Env}{σ:St}{a:Act}{w:World}(h:Rel E σ a w)(dst:Option Tmp){x:XV}{v:Value}(hx:XR E w σ.bx x v):Rel E (σ.put dst x) (a.put dst v) w:=by
 cases dst with
 |none=>exact h
 |some d=>exact⟨h.OO,by simpa[St.put,Act.put]using CW.set h.tm hx,h.bx⟩
theorem CW.AOZ{E:Env}{w:World}{vw:List Bx}{l:List XV}{m:Array Value}(h:CW (XR E w vw) l m.toList)(t:Nat):XR E w vw (l.getD t (.c .undef)) (m.getD t undef):=by
 by_cases ht:t<l.length
 ·have e:l[t]? =some l[t]:=AM4 ht
  obtain⟨b,hb,hr⟩:=h.get e;simp_all
 ·have e:l[t]? =none:=by simp_all
  simp only[List.getD_eq_getElem?_getD,e,Option.getD_none]
  trivial
theorem sJ{E:Env}{w:World}{vw:List Bx}(v:Value):VR E w vw (qz v) v:=by
 unfold qz;split<;>first
  |trivial
  |exact⟨rfl,by simp[Rd]⟩
  |rfl
theorem mi{E:Env}{w:World}{vw:List Bx}:∀(l:List Value),jj E w vw (l.map qz) l
 |[]=>trivial
 |a::l=>⟨sJ a,mi l⟩
theorem y7{E:Env}{w:World}{vw:List Bx}(v:Value):XR E w vw (ofValue v) v:=by
 unfold ofValue;split
 ·rename_i cs
  exact⟨cs,rfl,mi cs.toList⟩
 ·exact sJ v
theorem Rel.ev{E:Env}{σ:St}{a:Act}{w:World}(h:Rel E σ a w)(x:Operand):XR E w σ.bx (σ.ev x) (a.eval x):=by
 cases x with
 |tmp t=>exact CW.AOZ h.tm t
 |const v=>exact y7 v
 |global g=>trivial
 |func f=>exact⟨by simp,rfl⟩
theorem Vk{b:Nat}:∀{Fs:List ABG} {F:ABG},Fs[b]? =some F→Fs.flatten.Perm (F++(Fs.set b []).flatten):=by
 induction b with
 |zero=>
  intro Fs F h;cases Fs with
  |nil=>simp at h
  |cons A l=>simp_all
 |succ b ih=>
  intro Fs F h;cases Fs with
  |nil=>simp at h
  |cons A l=>
   grind
theorem Sep.perm{E:Env}{w:World}{F F':ABG}(h:Sep E w F)(p:F.Perm F'):Sep E w F':=
 ⟨p.nodup_iff.1 h.nodup,fun c hc=>h.free c (p.mem_iff.2 hc),fun c hc=>h.lt c (p.mem_iff.2 hc),h.st,h.dV⟩
theorem Sep.sub{E:Env}{w:World}{F F':ABG}(h:Sep E w (F++F')):Sep E w F:=
 ⟨(AOj.1 h.nodup).1,fun c hc=>h.free c (by simp[hc]),fun c hc=>h.lt c (by simp[hc]),h.st,h.dV⟩
theorem C8.perm{E:Env}{w:World}{vw bx:List Bx}{G G':ABG}(h:C8 E w vw bx G)(p:G.Perm G'):C8 E w vw bx G':=
 let⟨Fs,h1,h2⟩:=h
 ⟨Fs,h1,h2.perm (AVQ _ p)⟩
theorem C8.drop{E:Env}{w:World}{vw bx:List Bx}{G G':ABG}(h:C8 E w vw bx (G++G')):C8 E w vw bx G:=
 let⟨Fs,h1,h2⟩:=h
 ⟨Fs,h1,by rw[←AOK]at h2;exact h2.sub⟩
theorem C8.st{E:Env}{w:World}{vw bx:List Bx}{G:ABG}(h:C8 E w vw bx G):∀c,E.S c→E.T c:=let⟨_,_,h⟩:=h;h.st
theorem C8.dV{E:Env}{w:World}{vw bx:List Bx}{G:ABG}(h:C8 E w vw bx G):∀c,E.T c→c<w.heap.size:=let⟨_,_,h⟩:=h;h.dV
theorem C8.AFI{E:Env}{w:World}{vw bx:List Bx}{G:ABG}(h:C8 E w vw bx G):∀c∈G,¬E.T c:=let⟨_,_,h⟩:=h;fun c hc=>h.free c (by simp[hc])
theorem C8.take{E:Env}{w:World}{vw bx:List Bx}{G:ABG}(h:C8 E w vw bx G){b:Nat}{B:Bx}(hb:bx[b]? =some B):
  ∃F,ou E w vw b B F∧C8 E w vw (bx.set b .dead) (F++G):=by
 obtain⟨Fs,⟨hl,h1⟩,h2⟩:=h;have G4:=(ANF.1 hb).1;have hF:Fs[b]? =some (Fs[b]'(by omega)):=AM4 _;refine⟨_,h1 b B _ hb hF,Fs.set b [],⟨by simp_all,fun k C F hk hkF=> ?_⟩,h2.perm ?_⟩
 ·by_cases e:k=b
  ·subst e
   rw[ASy (by omega)]at hk hkF;cases hk;cases hkF;rfl
  grind
 grind[List.Perm.append_right,Vk,List.append_assoc,List.perm_append_comm,trans,List.Perm.append_left]
theorem C8.put{E:Env}{w:World}{vw bx:List Bx}{F G:ABG}(h:C8 E w vw bx (F++G)){b:Nat}{B:Bx}(hb:bx[b]? =some .dead)(hB:ou E w vw b B F):
  C8 E w vw (bx.set b B) G:=by
 obtain⟨Fs,⟨hl,h1⟩,h2⟩:=h;have G4:=(ANF.1 hb).1;have hF:Fs[b]? =some (Fs[b]'(by omega)):=AM4 _;have e0:Fs[b]'(by omega)=[]:=h1 b _ _ hb hF;refine⟨Fs.set b F,⟨by simp_all,fun k C F' hk hkF=> ?_⟩,h2.perm ?_⟩
 ·grind
 ·have p:(Fs.set b F).flatten.Perm (F++Fs.flatten):=by
   have p1:=Vk (Fs:=Fs.set b F) (b:=b) (F:=F) (ASy (by omega));rw[AW6]at p1;have p2:=Vk hF;grind
  grind
theorem C8.push{E:Env}{w:World}{vw bx:List Bx}{F G:ABG}(h:C8 E w vw bx (F++G)){B:Bx}(hB:ou E w vw bx.length B F):
  C8 E w vw (bx++[B]) G:=by
 obtain⟨Fs,⟨hl,h1⟩,h2⟩:=h;refine⟨Fs++[F],⟨by simp[hl],fun k C F' hk hkF=> ?_⟩,h2.perm (by simp)⟩;grind
theorem C8.turn{E E':Env}{w w':World}{vw vw' bx:List Bx}{G:ABG}(h:C8 E w vw bx G)(k:∀x v,VR E w vw x v→VR E' w' vw' x v)
  (hS:∀c,E.S c→E'.S c) (AE3:∀b,b<bx.length→E'.IE b=E.IE b) (nL:∀b,b<bx.length→E'.IF b=E.IF b)
  (hw:∀c,(E.S c∨(¬E.T c∧c∉G))→c<w.heap.size→w'.heap[c]? =w.heap[c]?)
  (ADA:∀F,Sep E w (F++G)→Sep E' w' (F++G)):C8 E' w' vw' bx G:=by
 obtain⟨Fs,⟨hl,h1⟩,h2⟩:=h;refine⟨Fs,⟨hl,fun n B F hn hF=> ?_⟩,ADA _ h2⟩;have G4:=(ANF.1 hn).1;have h3:=h1 n B F hn hF;have ANr:∀c∈F,c∈Fs.flatten:=fun c hc=>ASb.2 ⟨F,APx hF,hc⟩
 have hFw:∀c∈F,w'.heap[c]? =w.heap[c]?:=fun c hc=>hw c (.inr ⟨h2.free c (by simp_all),fun hg=>by
  have:=(AOj.1 h2.nodup).2.2 c (ANr c hc) c hg;omega⟩) (h2.lt c (by simp_all))
 have sr:∀c,E.S c→w'.heap[c]? =w.heap[c]?:=fun c hc=>hw c (.inl hc) (h2.dV c (h2.st c hc))
 cases B with
 |mem cs=>
  obtain⟨rfl,arr,ty,fr,ha,hu,hv⟩:=h3;refine⟨by simp_all,arr,ty,fr,?_,hu,hv.imp k⟩;simp_all
 |sl d r rows=>
  obtain⟨hd,ho⟩:=h3;refine⟨hd,?_⟩;grind[Eb]
 |dead=>exact h3
end Go.Fw
end
section
namespace Go.Fw
theorem IM{β:Ty→Type}{a b:Ty}{x:β a}{y:β b}(h:Q1 a b x=some y):∃e:a=b,e▸x=y:=by
 grind[Q1]
def FP(bk vw:List Bx):Prop:= ∀(b:Nat) (B:Bx),bk[b]? =some B→B= .dead∨vw[b]? =some B
theorem FP.refl(bx:List Bx):FP bx bx:=fun _ _ h=> .inr h
theorem Addr.add_eq(b o n:Nat):(⟨b,o,none⟩:Addr).add n=⟨b,o+n,none⟩:=by grind[Addr.add]
theorem yk{w:World}{B:Nat→Prop}{r:Ty}{a:Option Addr}{len cap:Nat}{ys:List r.D}(h:Rd w B (.sl r) [.slice a len cap] ys){off n:Nat}(hn:off+n≤ys.length):
  Rd w B (.sl r) [WH r.n off n a cap] ((ys.drop off).take n):=by
 simp only[Rd]at h⊢;obtain⟨a',cap',e,hc,h⟩:=h;simp only[AR6,Value.slice.injEq,ASq]at e;obtain⟨rfl,rfl,rfl⟩:=e;have hl:((ys.drop off).take n).length=n:=by grind
 refine⟨_,_,by unfold WH;rw[hl],by omega,?_⟩;rw[hl];by_cases h0:n=0
 ·omega
 ·rcases h with h|⟨b,o,rfl,hb,h⟩
  ·omega
  ·refine .inr ⟨b,o+off*r.n,?_,hb,fun i y hy=> ?_⟩
   ·rw[AM2 (by omega)]
    simp[Addr.add_eq]
   grind
def qZ(E:Env)(Fs:List ABG)(c:Nat):Prop:=E.T c∨c∈Fs.flatten
section
variable{E:Env} {w:World} {vw bk:List Bx} {Fs:List ABG}
theorem N9.get(h:N9 E w vw bk Fs){b:Nat}{B:Bx}(e:bk[b]? =some B):∃F,ou E w vw b B F∧ ∀c∈F,c∈Fs.flatten:=by
 have G4:=(ANF.1 e).1;have hF:Fs[b]? =some (Fs[b]'(by rw[h.1];omega)):=AM4 _;exact⟨_,h.2 b B _ e hF,fun c hc=>ASb.2 ⟨_,APx hF,hc⟩⟩
theorem eV(hs:FP bk vw)(h:N9 E w vw bk Fs)(st:∀c,E.S c→E.T c){b d:Nat}{r:Ty}{rows:List r.D}(e:bk[b]? =some (.sl d r rows))
  {p:List Xb} (hp:DE r rows p) {q:Ty} {ys:List q.D} (hg:HE r rows p=some ⟨q,ys⟩) {v:Value} (hh:JH w (E.IF b) p=some v):
  Rd w (qZ E Fs) (.sl q) [v] ys:=by
 obtain⟨F,⟨_,ho⟩,hF⟩:=h.get e;obtain⟨h',k,hr⟩:=oE (X_ ho) hp hg;have:=k w (fun _ _=>rfl);rw[hh]at this;cases this;exact Fu (fun c hc=>hc.elim (fun hc=> .inl (st c hc)) (fun hc=> .inr (hF c hc))) (fun _ _=>rfl) hr
theorem ZX(hs:FP bk vw){b d:Nat}{r:Ty}{rows:List r.D}(e:bk[b]? =some (.sl d r rows)):vw[b]? =some (.sl d r rows):=by
 rcases hs b _ e with h|h
 all_goals simp_all
theorem ah(hs:FP bk vw)(h:N9 E w vw bk Fs)(st:∀c,E.S c→E.T c){x:AV}{v:Value}(hv:VR E w vw x v){q:Ty}{ys:List q.D}(e:N5 bk x=some ⟨q,ys⟩):
  Rd w (qZ E Fs) (.sl q) [v] ys:=by
 cases x with
 |sl s r x=>
  simp only[N5,ANB,AOQ]at e;obtain⟨rfl,e⟩:=e;obtain rfl:=ASX e;simp only[VR]at hv;refine Fu (fun c hc=> ?_) (fun _ _=>rfl) hv;cases s
  ·exact .inl (by simp_all)
  ·exact .inl (st c (by simp_all))
 |ref b p=>
  grind[N5,VR,ZX,eV]
 |win b p off n=>
  simp only[N5]at e;split at e
  ·rename_i d r rows hb
   simp only[VR,ZX hs hb]at hv;obtain⟨_,hp,q',vC,a,len,cap,hg,hl,hh,rfl⟩:=hv;rw[hg]at e;simp only[Option.map_some,ANB,AOQ]at e;obtain⟨rfl,e⟩:=e;obtain rfl:=ASX e;grind[yk,eV]
  simp_all
 |_=>simp[N5]at e
theorem VN(hs:FP bk vw)(h:N9 E w vw bk Fs)(st:∀c,E.S c→E.T c){t:Ty}{x:AV}{v:Value}(hv:VR E w vw x v){y:t.D}(e:NN bk t x=some y):
  Rd w (qZ E Fs) t [v] y:=by
 have sl:∀(r:Ty) (x:AV) (v:Value) (y:List r.D),VR E w vw x v→((N5 bk x).bind fun q=>Q1 (β:=fun r=>List r.D) q.1 r q.2)=some y→Rd w (qZ E Fs) (.sl r) [v] y:=by
  grind[Option.bind_eq_some_iff,IM,ah]
 cases x with
 |v u z=>
  simp only[NN]at e;obtain⟨e1,e2⟩:=IM e;subst e1;subst e2;exact Fu (fun _ hc=>hc.elim) (fun _ hc=>hc.elim) hv.2
 |nil=>
  cases t with
  |sl r=>
   simp only[NN,ANB]at e;subst e;simp only[VR]at hv;subst hv;simp only[Rd];simp_all
  |_=>simp[NN]at e
 |_=>
  cases t with
  |sl r=>exact sl r _ _ y hv (by simpa only[NN]using e)
  |_=>simp[NN]at e
theorem gm(hs:FP bk vw)(h:N9 E w vw bk Fs)(st:∀c,E.S c→E.T c):∀{r:Ty} {l:List AV} {vs:List Value} {x:r.D},jj E w vw l vs→IU bk r l=some x→
  Rd w (qZ E Fs) r vs x
 | .unit,[],[],x,_,_=>by rfl
 | .cons c r,a::l,v::vs,x,hv,e=>by
  simp only[IU,ANU,AND]at e;obtain⟨y,e1,z,e2,rfl⟩:=e;simp only[Rd];exact⟨v,vs,rfl,VN hs h st hv.1 e1,gm hs h st hv.2 e2⟩
 | .unit,_::_,_,_,_,e=>by simp[IU]at e
 | .unit,[],_::_,_,hv,_=>hv.elim
 | .cons _ _,[],_,_,_,e=>by simp[IU]at e
 | .cons _ _,_::_,[],_,hv,_=>hv.elim
 | .int _,_,_,_,_,e=>by simp[IU]at e
 | .bool,_,_,_,_,e=>by simp[IU]at e
 | .str,_,_,_,_,e=>by simp[IU]at e
 | .sl _,_,_,_,_,e=>by simp[IU]at e
theorem ij{E1:Env}{xL:List Bx}(hs:FP bk vw)(h:N9 E w vw bk Fs)(st:∀c,E.S c→E.T c)(hT:∀c,qZ E Fs c→E1.T c):
  ∀{r:Ty} {l:List AV} {vs:List Value} {x:r.D},jj E w vw l vs→IU bk r l=some x→jj E1 w xL (qY r x) vs
 | .unit,[],[],x,_,_=>trivial
 | .cons c r,a::l,v::vs,x,hv,e=>by
  simp only[IU,ANU,AND]at e;obtain⟨y,e1,z,e2,rfl⟩:=e;have ZN:=VN hs h st hv.1 e1;have tl:jj E1 w xL _ _:=ij hs h st hT hv.2 e2;cases c with
  |sl q=>
   refine⟨?_,tl⟩;simp only[VR];exact Fu hT (fun _ _=>rfl) (by omega)
  |int k=>exact⟨⟨rfl,by grind[Rd]⟩,tl⟩
  |bool=>exact⟨⟨rfl,by grind[Rd]⟩,tl⟩
  |str=>exact⟨⟨rfl,by grind[Rd]⟩,tl⟩
  |unit=>
   grind[Rd]
  |cons c' r' =>
   exfalso
   cases a with
   |v u z=>
    simp only[NN]at e1;obtain⟨e3,_⟩:=IM e1;subst e3;exact absurd hv.1.1 (by simp[Ty.scalar])
   |_=>simp[NN]at e1
 | .unit,_::_,_,_,_,e=>by simp[IU]at e
 | .unit,[],_::_,_,hv,_=>hv.elim
 | .cons _ _,[],_,_,_,e=>by simp[IU]at e
 | .cons _ _,_::_,[],_,hv,_=>hv.elim
 | .int _,_,_,_,_,e=>by simp[IU]at e
 | .bool,_,_,_,_,e=>by simp[IU]at e
 | .str,_,_,_,_,e=>by simp[IU]at e
 | .sl _,_,_,_,_,e=>by simp[IU]at e
end
end Go.Fw
end
section
namespace Go.Fw
def Ext(m m':QA):Prop:=m'.length=m.length∧ ∀(i b:Nat),m[i]? =some (some b)→m'[i]? =some (some b)
theorem Ext.refl(m:QA):Ext m m:=⟨rfl,fun _ _ h=>h⟩
theorem Ext.trans{m m' m'':QA}(h:Ext m m')(k:Ext m' m''):Ext m m'':=⟨k.1.trans h.1,fun i b e=>k.2 i b (h.2 i b e)⟩
def qW(m:QA):Prop:= ∀(i j b:Nat),m[i]? =some (some b)→m[j]? =some (some b)→i=j
theorem dW{m m':QA}{i b:Nat}(e:m.put i b=some m'):Ext m m'∧m'[i]? =some (some b)∧(qW m→qW m'):=by
 unfold QA.put at e;split at e
 ·rename_i h
  split at e
  ·cases e
  ·rename_i hc
   cases e;have G4:=(ANF.1 h).1;have AWj:∀(k:Nat),m[k]?≠some (some b):=fun k hk=>hc (by
    grind)
   refine⟨⟨by simp,fun k c hk=> ?_⟩,by simp[G4],fun hi j k c hj hk=> ?_⟩
   ·grind
   ·by_cases e1:j=i<;>by_cases e2:k=i
    ·omega
    ·grind
    ·grind
    ·rw[ASc (by omega)]at hj hk
     exact hi j k c hj hk
 all_goals grind[Ext.refl]
def SH(m:QA):List Nat→List Nat→Prop
 |[],[]=>True
 |i::is,b::bs=>m[i]? =some (some b)∧SH m is bs
 |_,_=>False
theorem SH.ext{m m':QA}(h:Ext m m'):∀{is bs},SH m is bs→SH m' is bs
 |[],[],_=>trivial
 |_::_,_::_,k=>⟨h.2 _ _ k.1,SH.ext h k.2⟩
theorem il:∀{is bs:ABG} {m m':QA},bq m is bs=some m'→Ext m m'∧SH m' is bs∧(qW m→qW m')
 |[],[],m,m',e=>by simp only[bq,ANB]at e;subst e;exact⟨Ext.refl _,trivial,fun h=>h⟩
 |i::is,b::bs,m,m',e=>by
  simp only[bq,ANU]at e;obtain⟨m1,e1,e2⟩:=e;obtain⟨a1,a2,a3⟩:=dW e1;obtain⟨b1,b2,b3⟩:=il e2;exact⟨a1.trans b1,⟨b1.2 _ _ a2,b2⟩,fun h=>b3 (a3 h)⟩
 |[],_::_,_,_,e=>by simp[bq]at e
 |_::_,[],_,_,e=>by simp[bq]at e
def Si(N:Nat)(m:QA):AP→AV→Prop
 | .ref i,x=> ∃b,(x= .ref b []∨(x= .nil∧b=N+i))∧m[i]? =some (some b)
 | .ptr i j,x=> ∃b,x= .Ik b j∧m[i]? =some (some b)
 | .fn f Ky,x=> ∃bs,x= .fn f bs∧SH m Ky bs
 | .nil,x=>x= .nil
 | .lC i sz,x=> ∃b k j,x= .ref b [⟨k,sz,j⟩]∧m[i]? =some (some b)
 |_,_=>True
theorem Si.ext{N:Nat}{m m':QA}(h:Ext m m'){p:AP}{x:AV}(k:Si N m p x):Si N m' p x:=by
 cases p with
 |ref i=>obtain⟨b,hx,k⟩:=k;exact⟨b,hx,h.2 _ _ k⟩
 |ptr i j=>obtain⟨b,rfl,k⟩:=k;exact⟨b,rfl,h.2 _ _ k⟩
 |fn f Ky=>obtain⟨bs,rfl,k⟩:=k;exact⟨bs,rfl,k.ext h⟩
 |nil=>exact k
 |lC i sz=>obtain⟨b,q,j,rfl,k⟩:=k;exact⟨b,q,j,rfl,h.2 _ _ k⟩
 |_=>trivial
theorem dj{N:Nat}{m m':QA}{p:AP}{x:AV}(e:p.Oc N m x=some m'):Ext m m'∧Si N m' p x∧(qW m→qW m'):=by
 cases p with
 |ref i=>
  cases x with
  |ref b q=>
   cases q with
   |nil=>
    obtain⟨a,b,c⟩:=dW (by simpa only[AP.Oc]using e);exact⟨a,⟨_,.inl rfl,b⟩,c⟩
   |cons _ _=>simp[AP.Oc]at e
  |nil=>
   obtain⟨a,b,c⟩:=dW (by simpa only[AP.Oc]using e);exact⟨a,⟨_,.inr ⟨rfl,rfl⟩,b⟩,c⟩
  |_=>simp[AP.Oc]at e
 |ptr i j=>
  cases x with
  |Ik b j' =>
   simp only[AP.Oc]at e;split at e
   ·rename_i hj
    subst hj;obtain⟨a,b,c⟩:=dW e;exact⟨a,⟨_,rfl,b⟩,c⟩
   simp_all
  |_=>simp[AP.Oc]at e
 |fn f Ky=>
  cases x with
  |fn g bs=>
   simp only[AP.Oc]at e;split at e
   ·rename_i hf
    subst hf;obtain⟨a,b,c⟩:=il e;exact⟨a,⟨_,rfl,b⟩,c⟩
   simp_all
  |_=>simp[AP.Oc]at e
 |nil=>
  cases x with
  |nil=>simp only[AP.Oc,ANB]at e;subst e;exact⟨Ext.refl _,rfl,fun h=>h⟩
  |_=>simp[AP.Oc]at e
 |lC i sz=>
  cases x with
  |ref b q=>
   cases q with
   |nil=>simp[AP.Oc]at e
   |cons s q=>
    cases q with
    |nil=>
     simp only[AP.Oc]at e;split at e
     ·rename_i hs
      obtain⟨a,b,c⟩:=dW e;obtain⟨k,z,y⟩:=s;dsimp only at hs;subst hs;exact⟨a,⟨_,k,y,rfl,b⟩,c⟩
     simp_all
    |cons _ _=>simp[AP.Oc]at e
  |_=>simp[AP.Oc]at e
 |_=>
  have:m=m':=by grind[AP.Oc]
  subst this;exact⟨Ext.refl _,trivial,fun h=>h⟩
theorem XM{N:Nat}:∀{l:List AP} {xs:List AV} {m m':QA},Yk.Oc N m l xs=some m'→Ext m m'∧CW (Si N m') l xs∧(qW m→qW m')
 |[],[],m,m',e=>by simp only[Yk.Oc,ANB]at e;subst e;exact⟨Ext.refl _,trivial,fun h=>h⟩
 |p::l,x::xs,m,m',e=>by
  simp only[Yk.Oc,ANU]at e;obtain⟨m1,e1,e2⟩:=e;obtain⟨a1,a2,a3⟩:=dj e1;obtain⟨b1,b2,b3⟩:=XM e2;exact⟨a1.trans b1,⟨a2.ext b1,b2⟩,fun h=>b3 (a3 h)⟩
 |[],_::_,_,_,e=>by simp[Yk.Oc]at e
 |_::_,[],_,_,e=>by simp[Yk.Oc]at e
def gP(N:Nat)(m:QA):AP ⊕ List AP→AV ⊕ List AV→Prop
 | .inl p,.inl x=>Si N m p x
 | .inr p,.inr x=>CW (Si N m) p x
 |_,_=>False
theorem gP.ext{N:Nat}{m m':QA}(h:Ext m m'):∀{p:AP ⊕ List AP} {x:AV ⊕ List AV},gP N m p x→gP N m' p x
 | .inl _,.inl _,k=>Si.ext h k
 | .inr _,.inr _,k=>CW.imp (fun _ _ k=>Si.ext h k) k
theorem bT{N:Nat}:∀{l:List (AP ⊕ List AP)} {xs:List (AV ⊕ List AV)} {m m':QA},Yq.Oc N m l xs=some m'→Ext m m'∧CW (gP N m') l xs∧(qW m→qW m')
 |[],[],m,m',e=>by simp only[Yq.Oc,ANB]at e;subst e;exact⟨Ext.refl _,trivial,fun h=>h⟩
 | .inl p::l,.inl x::xs,m,m',e=>by
  simp only[Yq.Oc,ANU]at e;obtain⟨m1,e1,e2⟩:=e;obtain⟨a1,a2,a3⟩:=dj e1;obtain⟨b1,b2,b3⟩:=bT e2;exact⟨a1.trans b1,⟨Si.ext b1 a2,b2⟩,fun h=>b3 (a3 h)⟩
 | .inr p::l,.inr x::xs,m,m',e=>by
  simp only[Yq.Oc,ANU]at e;obtain⟨m1,e1,e2⟩:=e;obtain⟨a1,a2,a3⟩:=XM e1;obtain⟨b1,b2,b3⟩:=bT e2;exact⟨a1.trans b1,⟨CW.imp (fun _ _ k=>Si.ext b1 k) a2,b2⟩,fun h=>b3 (a3 h)⟩
 |[],_::_,_,_,e=>by simp[Yq.Oc]at e
 | .inl _::_,[],_,_,e=>by simp[Yq.Oc]at e
 | .inr _::_,[],_,_,e=>by simp[Yq.Oc]at e
 | .inl _::_,.inr _::_,_,_,e=>by simp[Yq.Oc]at e
 | .inr _::_,.inl _::_,_,_,e=>by simp[Yq.Oc]at e
def cB(N:Nat)(m:QA):XP→XV→Prop
 | .c p,.c x=>Si N m p x
 | .agg l,.agg xs=>CW (Si N m) l xs
 | .row _,.agg _=>True
 | .M3 l,.M3 xs=>CW (gP N m) l xs
 |_,_=>False
theorem cB.ext{N:Nat}{m m':QA}(h:Ext m m'):∀{p:XP} {x:XV},cB N m p x→cB N m' p x
 | .c _,.c _,k=>Si.ext h k
 | .agg _,.agg _,k=>CW.imp (fun _ _ k=>Si.ext h k) k
 | .row _,.agg _,_=>trivial
 | .M3 _,.M3 _,k=>CW.imp (fun _ _ k=>gP.ext h k) k
theorem vy{N:Nat}{m m':QA}:∀{p:XP} {x:XV},p.Oc N m x=some m'→Ext m m'∧cB N m' p x∧(qW m→qW m')
 | .c p,.c x,e=>dj (by grind[XP.Oc])
 | .agg l,.agg xs,e=>XM (by grind[XP.Oc])
 | .row r,.agg xs,e=>by simp only[XP.Oc,ANB]at e;subst e;exact⟨Ext.refl _,trivial,fun h=>h⟩
 | .M3 l,.M3 xs,e=>bT (by grind[XP.Oc])
 | .c _,.agg _,e=>by simp[XP.Oc]at e
 | .c _,.M3 _,e=>by simp[XP.Oc]at e
 | .agg _,.c _,e=>by simp[XP.Oc]at e
 | .agg _,.M3 _,e=>by simp[XP.Oc]at e
 | .row _,.c _,e=>by simp[XP.Oc]at e
 | .row _,.M3 _,e=>by simp[XP.Oc]at e
 | .M3 _,.c _,e=>by simp[XP.Oc]at e
 | .M3 _,.agg _,e=>by simp[XP.Oc]at e
theorem dr{N:Nat}{tm:List XV}:∀{l:List (Nat×XP)} {m m':QA},G9.Oc N tm m l=some m'→
  Ext m m'∧(∀q∈l,∃x,tm[q.1]? =some x∧cB N m' q.2 x)∧(qW m→qW m')
 |[],m,m',e=>by grind[G9.Oc,Option.some.injEq,Ext.refl]
 |(i,p)::l,m,m',e=>by
  simp only[G9.Oc]at e;split at e
  ·rename_i x hx
   simp only[ANU]at e;obtain⟨m1,e1,e2⟩:=e;obtain⟨a1,a2,a3⟩:=vy e1;obtain⟨b1,b2,b3⟩:=dr e2;refine⟨a1.trans b1,?_,fun h=>b3 (a3 h)⟩;intro q hq;rcases ARi.1 hq with rfl|hq
   all_goals grind[cB.ext]
  simp_all
theorem XD{N:Nat}{bx:List Bx}:∀{l:List BP} {i:Nat} {m m':QA},J6.Oc N bx i m l=some m'→
  Ext m m'∧(∀(k:Nat) q,l[k]? =some (.mem q)→ ∃b cs,m'[i+k]? =some (some b)∧bx[b]? =some (.mem cs)∧CW (Si N m') q cs)∧
   (∀(k:Nat) d r,l[k]? =some (.sl d r)→ ∃b,m'[i+k]? =some (some b))∧(qW m→qW m')
 |[],i,m,m',e=>by grind[J6.Oc,Option.some.injEq,Ext.refl]
 | .mem q::l,i,m,m',e=>by
  simp only[J6.Oc]at e;split at e
  ·rename_i b hb
   split at e
   ·rename_i cs v7
    simp only[ANU]at e;obtain⟨m1,e1,e2⟩:=e;obtain⟨a1,a2,a3⟩:=XM e1;obtain⟨b1,b2,b4,b3⟩:=XD e2;refine⟨a1.trans b1,?_,?_,fun h=>b3 (a3 h)⟩
    ·intro k q' hk
     cases k with
     |zero=>cases hk;exact⟨b,cs,b1.2 _ _ (a1.2 _ _ hb),v7,CW.imp (fun _ _ k=>Si.ext b1 k) a2⟩
     |succ k=>
      grind
    grind
   simp_all
  simp_all
 | .sl d r::l,i,m,m',e=>by
  simp only[J6.Oc]at e;split at e
  ·rename_i b hb
   obtain⟨b1,b2,b4,b3⟩:=XD e;refine⟨b1,?_,?_,b3⟩
   ·grind
   ·intro k d r hk
    cases k with
    |zero=>exact⟨b,b1.2 _ _ hb⟩
    |succ k=>
     grind
  simp_all
 | .gone::l,i,m,m',e=>by
  simp only[J6.Oc]at e;obtain⟨b1,b2,b4,b3⟩:=XD e;grind
theorem Sj{bx bk:List Bx}{Jw:Nat→Nat}:∀{l:List BP} {m:QA} {x:J6.V l},J6.get bx bk m l=some x→(J6.mk Jw l x).length=l.length∧
  ∀(k:Nat) p,l[k]? =some p→ ∃y:p.V,(J6.mk Jw l x)[k]? =some (p.mk Jw y)∧
   match p,y with
   | .mem q,y=> ∃b cs,m[k]? =some (some b)∧bx[b]? =some (.mem cs)∧Yk.get bk q cs=some y
   | .sl d r,y=> ∃b d',m[k]? =some (some b)∧bx[b]? =some (.sl d' r y)∧1≤d∧d≤d'
   | .gone,_=>True
 |[],m,x,e=>⟨rfl,by simp⟩
 | .mem q::l,some b::m,x,e=>by
  simp only[J6.get]at e;split at e
  ·rename_i cs v7
   simp only[ANU,AND]at e;obtain⟨a,e1,c,e2,rfl⟩:=e;obtain⟨h1,h2⟩:=Sj (Jw:=Jw) e2;refine⟨by simp[J6.mk,h1],fun k p hk=> ?_⟩;cases k with
   |zero=>cases hk;exact⟨a,rfl,b,cs,rfl,v7,e1⟩
   |succ k=>
    grind[J6.mk]
  simp_all
 | .sl d r::l,some b::m,x,e=>by
  simp only[J6.get]at e;split at e
  ·rename_i d' q rows hb
   split at e
   ·rename_i hd
    simp only[ANU,AND]at e;obtain⟨a,e1,c,e2,rfl⟩:=e;obtain⟨e3,e4⟩:=IM e1;subst e3;subst e4;obtain⟨h1,h2⟩:=Sj (Jw:=Jw) e2;refine⟨by simp[J6.mk,h1],fun k p hk=> ?_⟩;cases k with
    |zero=>cases hk;exact⟨rows,rfl,b,d',rfl,hb,hd.1,hd.2⟩
    |succ k=>
     grind[J6.mk]
   simp_all
  simp_all
 | .gone::l,o::m,x,e=>by
  have e':(J6.get bx bk m l).map (fun c=>((),c))=some x:=by grind[J6.get]
  simp only[AND]at e';obtain⟨c,e2,rfl⟩:=e';obtain⟨h1,h2⟩:=Sj (Jw:=Jw) e2;refine⟨by simp[J6.mk,h1],fun k p hk=> ?_⟩;cases k with
  |zero=>cases hk;exact⟨(),rfl,trivial⟩
  |succ k=>
   grind[J6.mk]
 | .mem q::l,none::m,x,e=>by simp[J6.get]at e
 | .sl d r::l,none::m,x,e=>by simp[J6.get]at e
 | .mem _::_,[],x,e=>by simp[J6.get]at e
 | .sl _ _::_,[],x,e=>by simp[J6.get]at e
 | .gone::_,[],x,e=>by simp[J6.get]at e
theorem Kg:∀{m:QA} {bx:List Bx},(Cx bx m).length=bx.length
 |[],_=>rfl
 |some b::m,bx=>by simp[Cx,Kg]
 |none::m,bx=>by simp[Cx,Kg]
theorem S_:∀{m:QA} {bx vw:List Bx},FP bx vw→FP (Cx bx m) vw
 |[],_,_,h=>h
 |none::m,bx,vw,h=>by simp only[Cx];exact S_ h
 |some b::m,bx,vw,h=>by
  simp only[Cx];refine S_ fun k B hk=> ?_
  by_cases e:k=b
  ·grind
  ·rw[ASc (by omega)]at hk
   exact h k B hk
theorem W9:∀{m:QA} {bx:List Bx} {b:Nat} {B:Bx},some b∈m→(Cx bx m)[b]? =some B→B= .dead
 |some c::m,bx,b,B,h,e=>by
  simp only[Cx]at e;by_cases hm:some b∈m
  ·exact W9 hm e
  ·have:c=b:=by
    simp_all
   subst this;have:∀{m:QA} {bx:List Bx},bx[c]? =some .dead→some c∉m→(Cx bx m)[c]? =some .dead:=by
    intro m
    induction m with
    |nil=>intro bx h _;exact h
    |cons o m ih=>
     intro bx h hn;cases o with
     |none=>grind[Cx,List.mem_cons_of_mem]
     |some d=>
      grind[Cx,List.mem_cons_of_mem,List.getElem?_set_ne]
   grind[List.getElem?_eq_some_iff,Kg]
 |none::m,bx,b,B,h,e=>by
  simp only[Cx]at e;exact W9 (by simp_all) e
theorem ny{E:Env}{w:World}{vw:List Bx}:∀{m:QA} {bx:List Bx} {G:ABG},qW m→C8 E w vw bx G→
  ∃Gs:List ABG,Gs.length=m.length∧(∀(k b:Nat) B F,m[k]? =some (some b)→bx[b]? =some B→Gs[k]? =some F→ou E w vw b B F)∧
   C8 E w vw (Cx bx m) (Gs.flatten++G)
 |[],bx,G,_,h=>⟨[],rfl,by simp,h⟩
 |none::m,bx,G,hi,h=>by
  obtain⟨Gs,h1,h2,h3⟩:=ny (m:=m) (fun i j b DL hj=>by
   have:=hi (i+1) (j+1) b (by simp_all) (by simp_all);omega) h
  refine⟨[]::Gs,by simp[h1],fun k b B F hk hB hF=> ?_,by grind[Cx]⟩;grind
 |some b::m,bx,G,hi,h=>by
  have AGb:qW m:=fun i j b DL hj=>by
   have:=hi (i+1) (j+1) b (by simp_all) (by simp_all);omega
  cases e:bx[b]? with
  |none=>
   have Va:bx.set b .dead=bx:=List.set_eq_of_length_le (by simp_all);obtain⟨Gs,h1,h2,h3⟩:=ny (m:=m) AGb h;refine⟨[]::Gs,by simp[h1],fun k b' B F hk hB hF=> ?_,by grind[Cx]⟩;grind
  |some B0=>
   obtain⟨F0,k1,k2⟩:=h.take e;obtain⟨Gs,h1,h2,h3⟩:=ny (m:=m) AGb k2;refine⟨F0::Gs,by simp[h1],fun k b' B F hk hB hF=> ?_,?_⟩
   ·cases k with
    |zero=>
     simp_all
    |succ k=>
     have ea:b'≠b:=fun hh=>by
      have:=hi 0 (k+1) b (by simp) (by simp_all);omega
     grind
   ·simp only[Cx]
    refine h3.perm ?_
    grind
end Go.Fw
end
section
namespace Go.Fw
theorem qu{R:Nat→List Nat→List Nat→List Nat→Prop}:∀(Gs:List ABG) (o:Nat),(∀(k:Nat) G,Gs[k]? =some G→ ∃F W,G.Perm (F++W)∧R (o+k) G F W)→
  ∃Fs Ws:List ABG,Fs.length=Gs.length∧Ws.length=Gs.length∧Gs.flatten.Perm (Fs.flatten++Ws.flatten)∧
   ∀(k:Nat) G F W,Gs[k]? =some G→Fs[k]? =some F→Ws[k]? =some W→R (o+k) G F W
 |[],o,_=>⟨[],[],rfl,rfl,by simp,by simp⟩
 |G::Gs,o,h=>by
  obtain⟨F,W,hp,hr⟩:=h 0 G rfl;obtain⟨Fs,Ws,h1,h2,h3,h4⟩:=qu Gs (o+1) (fun k G hk=>by
   have:=h (k+1) G (by simp_all)
   rwa [show o+1+k=o+(k+1)by omega])
  refine⟨F::Fs,W::Ws,by simp[h1],by simp[h2],?_,fun k G' F' W' hG hF hW=> ?_⟩
  all_goals grind
def Oy(E:Env)(w:World)(vw:List Bx)(Jw:Nat→Nat):(l:List (Nat×XP))→G9.V l→List Value→Prop
 |[],_,_=>True
 |(i,p)::l,x,vals=>(∃v,vals[i]? =some v∧XR E w vw (p.mk Jw x.1) v)∧Oy E w vw Jw l x.2 vals
section
variable{E E1:Env} {w:World} {bx bk xL:List Bx} {Fk:List ABG} {m:QA}
theorem SH.map{f:Nat→Nat}(h:∀(i b:Nat),m[i]? =some (some b)→E1.IE i=E.IE b):∀{is bs:ABG},SH m is bs→
  (is.map fun b=>Value.pointer (some ⟨E1.IE b,0,none⟩))=bs.map fun b=>Value.pointer (some ⟨E.IE b,0,none⟩)
 |[],[],_=>rfl
 |i::is,b::bs,k=>by simp[h i b k.1,SH.map (f:=f) h k.2]
theorem SH.lt:∀{is bs:ABG},SH m is bs→ ∀i∈is,i<m.length
 |[],[],_,_,h=>by simp at h
 |i::is,b::bs,k,j,h=>by
  rcases ARi.1 h with rfl|h
  ·exact(ANF.1 k.1).1
  ·exact SH.lt k.2 j h
structure AEz (N:Nat) (E:Env) (w:World) (bx bk:List Bx) (Fk:List ABG) (m:QA) (E1:Env) (xL:List Bx):Prop where
 within:FP bk bx
 boxes:N9 E w bx bk Fk
 st:∀c,E.S c→E.T c
 T:∀c,qZ E Fk c→E1.T c
 S:∀c,E.S c→E1.S c
 ids:∀(i b:Nat),m[i]? =some (some b)→E1.IE i=E.IE b∧E1.IF i=E.IF b
 len:m.length≤xL.length
 nil:∀(i:Nat) d r rows,xL[i]? =some (.sl d r rows)→E.IF (N+i)= .slice none 0 0
 sl:∀(i:Nat) d r rows,i<m.length→xL[i]? =some (.sl d r rows)→ ∃b d',m[i]? =some (some b)∧bx[b]? =some (.sl d' r rows)
variable{N:Nat} (k:AEz N E w bx bk Fk m E1 xL)
include k
theorem xy{p:AP}{x:AV}{v:Value}(hv:VR E w bx x v)(ha:Si N m p x){y:p.V}(e:p.get bk x=some y):VR E1 w xL (p.mk id y) v:=by
 cases p with
 |v t=>
  simp only[AP.get]at e;split at e
  ·rename_i hs
   have hr:=VN k.within k.boxes k.st hv e;refine⟨hs,?_⟩;cases t with
   |int _=>grind[Rd]
   |bool=>grind[Rd]
   |str=>grind[Rd]
   |_=>simp[Ty.scalar]at hs
  simp_all
 |sl s r=>
  cases s with
  |false=>
   simp only[AP.get]at e;have hr:=VN k.within k.boxes k.st hv e;simp only[AP.mk,VR];exact Fu k.T (fun _ _=>rfl) (by omega)
  |true=>
   simp only[AP.get]at e;split at e
   ·rename_i q z
    obtain⟨e1,e2⟩:=IM e;subst e1;subst e2;simp only[AP.mk,VR]at hv⊢;exact Fu k.S (fun _ _=>rfl) (by simp_all)
   ·cases e
    simp only[AP.mk,VR]at hv⊢;subst hv;simp only[Rd];simp_all
   simp_all
 |nil=>
  obtain rfl:=ha;exact hv
 |ref i=>
  obtain⟨b,hx,hm⟩:=ha;have hi:=(ANF.1 hm).1;simp only[AP.mk,id,VR];rcases hx with rfl|⟨rfl,rfl⟩
  ·have hsl:=hv.1
   refine⟨hsl,?_⟩;cases e1:xL[i]? with
   |none=>simp at e1;have:=k.len;omega
   |some B=>
    cases B with
    |sl d r rows=>
     obtain⟨b',d',h1,h2⟩:=k.sl i d r rows hi e1;rw[hm]at h1;cases h1;simp only[VR,h2]at hv
     replace hv:=hv.2
     refine⟨by simp[DE],⟨_,rfl⟩,?_⟩;rw[(k.ids i b hm).2];simp_all
    |_=>trivial
  ·have ZL:v= .slice none 0 0:=hv
   subst ZL;refine⟨rfl,?_⟩;cases e1:xL[i]? with
   |none=>simp at e1;have:=k.len;omega
   |some B=>
    cases B with
    |sl d r rows=>
     refine⟨by simp[DE],⟨_,rfl⟩,?_⟩;rw[(k.ids i _ hm).2,k.nil i d r rows e1,DA]
    |_=>trivial
 |ptr i j=>
  obtain⟨b,rfl,hm⟩:=ha;have hi:=(ANF.1 hm).1;exact⟨ASn hi k.len,by rw[hv.2,id,(k.ids i b hm).1]⟩
 |nV r=>
  simp only[AP.get]at e;split at e
  ·rename_i s q z
   obtain⟨e1,e2⟩:=IM e;subst e1;subst e2;simp only[AP.mk,VR]at hv⊢;obtain⟨bb,o,cs,h1,h2,h3,h4,h5⟩:=hv;have APr:∀c,(if s=true then E.S else E.T) c→E1.T c:=by
    intro c hc;cases s
    ·exact k.T c (.inl (by simp_all))
    ·exact k.T c (.inl (k.st c (by simp_all)))
   exact⟨bb,o,cs,h1,by simp_all,h3,h4,by simpa using Fu APr (fun _ _=>rfl) h5⟩
  ·rename_i b
   split at e
   ·rename_i cs hb
    obtain⟨F,⟨hF,arr,ty,fr,ha,hu,Wl⟩,Te⟩:=k.boxes.get hb;have ZN:=gm k.within k.boxes k.st Wl e;simp only[AP.mk,VR];refine⟨E.IE b,0,arr.toList,by simpa using hv.2,?_,ku ZN,?_,by simpa using Fu k.T (fun _ _=>rfl) ZN⟩
    ·simp only[ANw,AQS]
     exact k.T _ (.inr (Te _ (by simp_all)))
    ·intro j u hj
     simp only[AS7,World.cell?,ha,ASu,ANw,AQS];simp_all
   simp_all
  ·rename_i b p i sz
   split at e
   ·rename_i d q rows hb
    simp only[ANU]at e;obtain⟨⟨q',ys⟩,e1,e2⟩:=e;split at e2
    case isFalse=>cases e2
    rename_i P5;obtain⟨e3,e4⟩:=IM e2;dsimp only at e3;subst e3;subst e4;simp only[VR,ZX k.within hb]at hv;obtain⟨_,hp,q1,ys1,bb,o,len,cap,hg,hi,hh,rfl⟩:=hv;rw[hg]at e1;simp only[ANB,AOQ]at e1;obtain⟨e5,e6⟩:=e1;subst e5;obtain rfl:=ASX e6;have ZN:=eV k.within k.boxes k.st hb hp hg hh;simp only[Rd]at ZN;obtain⟨a',cap',ee,_,ZN⟩:=ZN;simp only[AR6,Value.slice.injEq,ASq]at ee;obtain⟨rfl,rfl,rfl⟩:=ee;rcases ZN with ZN|⟨b1,o1,e7,hb1,ZN⟩
    ·omega
    ·cases e7
     obtain⟨cs,c1,c2,c3⟩:=ZN i _ (RX hi);simp only[AP.mk,VR];refine⟨bb,o+i*q1.n,cs,by rw[P5],by simpa using k.T _ hb1,c1,c2,by simpa using Fu k.T (fun _ _=>rfl) c3⟩
   simp_all
  simp_all
 |fn f Ky=>
  obtain⟨bs,rfl,hc⟩:=ha;refine⟨fun i hi=>ASn (hc.lt i (by simp_all)) k.len,?_⟩;rw[hv.2];simp only[AP.mk,List.map_id];rw[SH.map (f:=id) (fun i b h=>(k.ids i b h).1) hc]
 |q7 f rs=>
  simp only[AP.get]at e;split at e
  ·rename_i g rows
   split at e
   case isFalse=>cases e
   rename_i hfg;subst hfg;obtain⟨ps,cm,bB⟩:=hv;refine⟨ps,cm,?_⟩;clear ha cm
   induction rs generalizing rows ps with
   |nil=>
    cases rows with
    |nil=>
     cases ps with
     |nil=>trivial
     |cons _ _=>exact bB.elim
    |cons _ _=>simp[aA.qM]at e
   |cons r rs ih=>
    cases rows with
    |nil=>simp[aA.qM]at e
    |cons q rows=>
     cases ps with
     |nil=>exact bB.elim
     |cons p ps=>
      simp only[aA.qM,ANU,AND]at e;obtain⟨x1,e1,x2,e2,rfl⟩:=e;obtain⟨q1,q2⟩:=q;obtain⟨e3,e4⟩:=IM e1;dsimp only at e3;subst e3;subst e4;obtain⟨⟨bb,o,cs,h1,h2,h3,h4,h5⟩,bB⟩:=bB;exact⟨⟨bb,o,cs,h1,k.T bb (.inl h2),h3,h4,Fu (fun b hb=>k.T b (.inl hb)) (fun _ _=>rfl) h5⟩,ih rows e2 ps bB⟩
  ·rename_i g bs
   split at e
   case isFalse=>cases e
   rename_i hfg;subst hfg;obtain⟨cm,bB⟩:=hv;refine⟨bs.map fun b=>Value.pointer (some ⟨E.IE b,0,none⟩),bB,?_⟩;clear ha cm bB
   induction rs generalizing bs with
   |nil=>
    cases bs with
    |nil=>trivial
    |cons _ _=>simp[aA.qQ]at e
   |cons r rs ih=>
    cases bs with
    |nil=>simp[aA.qQ]at e
    |cons b bs=>
     simp only[aA.qQ,ANU,AND]at e;obtain⟨x1,e1,x2,e2,rfl⟩:=e;split at e1
     case h_2=>cases e1
     rename_i cs hb;obtain⟨F,⟨hF,arr,ty,fr,ha,hu,Wl⟩,Te⟩:=k.boxes.get hb;have ZN:=gm k.within k.boxes k.st Wl e1;refine⟨⟨E.IE b,0,arr.toList,rfl,k.T _ (.inr (Te _ (by simp_all))),ku ZN,?_,Fu k.T (fun _ _=>rfl) ZN⟩,ih bs e2⟩;intro j u hj;simp only[AS7,World.cell?,ha,ASu,ANw,AQS];simp_all
  simp_all
 |any=>trivial
 |lC i sz=>
  obtain⟨b,q,j,rfl,hm⟩:=ha;have hi:=(ANF.1 hm).1;simp only[AP.get,ANB]at e;subst e;simp only[AP.mk,id,VR];have hsl:=hv.1;refine⟨hsl,?_⟩;cases e1:xL[i]? with
  |none=>simp at e1;have:=k.len;omega
  |some B=>
   cases B with
   |sl d r rows=>
    obtain⟨b',d',h1,h2⟩:=k.sl i d r rows hi e1;rw[hm]at h1;cases h1;simp only[VR,h2]at hv
    replace hv:=hv.2
    refine⟨hv.1,hv.2.1,?_⟩;rw[(k.ids i b hm).2];simp_all
   |_=>trivial
theorem oA:∀{l:List AP} {xs:List AV} {vs:List Value},jj E w bx xs vs→CW (Si N m) l xs→ ∀{y:Yk.V l},Yk.get bk l xs=some y→jj E1 w xL (Yk.mk id l y) vs
 |[],[],[],_,_,_,_=>trivial
 |p::l,x::xs,v::vs,hv,ha,y,e=>by
  simp only[Yk.get,ANU,AND]at e;obtain⟨a,e1,b,e2,rfl⟩:=e;exact⟨xy k hv.1 ha.1 e1,oA hv.2 ha.2 e2⟩
 |[],[],_::_,hv,_,_,_=>hv.elim
 |_::_,_::_,[],hv,_,_,_=>hv.elim
 |[],_::_,_,_,ha,_,_=>ha.elim
 |_::_,[],_,_,ha,_,_=>ha.elim
theorem uZ:∀{l:List (AP ⊕ List AP)} {xs:List (AV ⊕ List AV)} {vs:List Value},CW (TR E w bx) xs vs→CW (gP N m) l xs→ ∀{y:Yq.V l},Yq.get bk l xs=some y→
  CW (TR E1 w xL) (Yq.mk id l y) vs
 |[],[],[],_,_,_,_=>trivial
 | .inl p::l,.inl x::xs,v::vs,hv,ha,y,e=>by
  simp only[Yq.get,ANU,AND]at e;obtain⟨a,e1,b,e2,rfl⟩:=e;exact⟨xy k hv.1 ha.1 e1,uZ hv.2 ha.2 e2⟩
 | .inr p::l,.inr x::xs,v::vs,hv,ha,y,e=>by
  simp only[Yq.get,ANU,AND]at e;obtain⟨a,e1,b,e2,rfl⟩:=e;obtain⟨⟨us,hu,hus⟩,h2⟩:=hv;exact⟨⟨us,hu,oA k hus ha.1 e1⟩,uZ h2 ha.2 e2⟩
 | .inl _::_,.inr _::_,_,_,ha,_,_=>ha.1.elim
 | .inr _::_,.inl _::_,_,_,ha,_,_=>ha.1.elim
 |[],[],_::_,hv,_,_,_=>hv.elim
 |_::_,_::_,[],hv,_,_,_=>hv.elim
 |[],_::_,_,_,ha,_,_=>ha.elim
 |_::_,[],_,_,ha,_,_=>ha.elim
theorem ANx{p:XP}{x:XV}{v:Value}(hv:XR E w bx x v)(ha:cB N m p x){y:p.V}(e:p.get bk x=some y):XR E1 w xL (p.mk id y) v:=by
 cases p with
 |c p=>cases x with
  |c x=>exact xy k hv ha (by grind[XP.get])
  |_=>exact ha.elim
 |agg l=>cases x with
  |agg xs=>
   obtain⟨vs,rfl,Wl⟩:=hv;exact⟨vs,rfl,oA k Wl ha (by grind[XP.get])⟩
  |_=>exact ha.elim
 |row r=>cases x with
  |agg xs=>
   obtain⟨vs,rfl,Wl⟩:=hv;exact⟨vs,rfl,ij k.within k.boxes k.st k.T Wl (by grind[XP.get])⟩
  |_=>exact ha.elim
 |M3 l=>cases x with
  |M3 xs=>
   obtain⟨vs,rfl,Wl⟩:=hv;exact⟨vs,rfl,uZ k Wl ha (by grind[XP.get])⟩
  |_=>exact ha.elim
theorem sw{tm:List XV}{vals:List Value}(htm:CW (XR E w bx) tm vals):∀{l:List (Nat×XP)},(∀q∈l,∃x,tm[q.1]? =some x∧cB N m q.2 x)→ ∀{y:G9.V l},G9.get bk tm l=some y→
  Oy E1 w xL id l y vals
 |[],_,_,_=>trivial
 |(i,p)::l,ha,y,e=>by
  obtain⟨x,hx,hax⟩:=ha (i,p) (by simp);simp only[G9.get,hx,ANU,AND]at e;obtain⟨a,e1,b,e2,rfl⟩:=e;obtain⟨v,hv,hr⟩:=htm.get hx;exact⟨⟨v,hv,ANx k hr hax e1⟩,sw htm (fun q hq=>ha q (by simp[hq])) e2⟩
end
structure uk (E:Env) (w:World) (bx:List Bx) (m:QA) (s:A6) (x:s.V) (vals:List Value) (E1:Env):Prop where
 boxes:C8 E1 w (J6.mk id s.G6 x.2) (J6.mk id s.G6 x.2) []
 D2:Oy E1 w (J6.mk id s.G6 x.2) id s.D2 x.1 vals
 ids:∀(i b:Nat),m[i]? =some (some b)→E1.IE i=E.IE b∧E1.IF i=E.IF b
 inj:qW m
 len:m.length=s.G6.length
 S:∀c,E.S c→E1.S c
 zt:∀c,E1.S c→E.S c∨ ¬E.T c
 T:∀c,E.T c→E1.T c
 rest:∃Fk,N9 E w bx (Cx bx m) Fk∧Fk.flatten.Nodup∧(∀c∈Fk.flatten,¬E.T c∧ ¬E1.S c∧c<w.heap.size∧E1.T c)∧(∀c,E1.T c→E.T c∨E1.S c∨c∈Fk.flatten)
theorem lS{E:Env}{w:World}{bx:List Bx}{tm:List XV}{vals:List Value}(hB:C8 E w bx bx [])(htm:CW (XR E w bx) tm vals){s:A6}{m0 m:QA}{x:s.V}
  {N:Nat} (wT:∀(i:Nat) d r,s.G6[i]? =some (.sl d r)→E.IF (N+i)= .slice none 0 0) (hlen:m0.length=s.G6.length) (AGb:qW m0) (e:s.fit N m0 tm bx=some (x,m)):Ext m0 m∧ ∃E1,uk E w bx m s x vals E1:=by
 simp only[A6.fit,ANU,AND]at e;obtain⟨m1,e1,m2,e2,a,e3,c,e4,e5⟩:=e;cases e5;obtain⟨a1,a2,a3⟩:=dr e1;obtain⟨b1,b2,b4,b3⟩:=XD e2;have hi:qW m:=b3 (a3 AGb);have xI:m.length=s.G6.length:=by rw[b1.1,a1.1,hlen]
 refine⟨a1.trans b1,?_⟩;obtain⟨Gs,g1,g2,g3⟩:=ny hi hB;obtain⟨q1,q2⟩:=Sj (Jw:=id) e4;have st:=hB.st
 let R:Nat→List Nat→List Nat→List Nat→Prop:=fun k G F W=>
  match s.G6[k]? with
  |some (.sl d r)=> ∀(b d':Nat) (rows:List r.D),m[k]? =some (some b)→bx[b]? =some (.sl d' r rows)→Ow w (fun c=>E.S c∨c∈W) d (.sl r) [E.IF b] rows F
  |some (.mem q)=>F=G∧W=[]
  |_=>F=[]∧W=G
 have ASD:∀(k:Nat) G,Gs[k]? =some G→ ∃F W,G.Perm (F++W)∧R (0+k) G F W:=by
  intro k G hG;rw[AS7];have hk:k<s.G6.length:=by
   grind
  have hp:s.G6[k]? =some s.G6[k]:=AM4 hk;cases hb:s.G6[k]with
  |mem q=>exact⟨G,[],by simp,by grind⟩
  |gone=>exact⟨[],G,by simp,by grind⟩
  |sl d r=>
   obtain⟨y,y1,b,d',y2,y3,y4,y5⟩:=q2 k _ (hp.trans (by rw[hb]));obtain⟨_,ho⟩:=g2 k b _ G y2 y3 hG;grind[KY]
 obtain⟨Fs,Ws,f1,f2,f3,f4⟩:=qu Gs 0 ASD;obtain⟨Fk,k1,k2⟩:=g3;simp only[AOC]at k2;have bl:Sep E w (Fk.flatten++(Fs.flatten++Ws.flatten)):=k2.perm (AVQ _ f3)
 let E1:Env:={
   IE:=fun i=>match m[i]? with|some (some b)=>E.IE b|_=>0
   IF:=fun i=>match m[i]? with|some (some b)=>E.IF b|_=> .nilFunc
   S:=fun c=>E.S c∨c∈Ws.flatten
   T:=fun c=>E.T c∨c∈Ws.flatten∨c∈Fk.flatten }
 have ACt:∀(i b:Nat),m[i]? =some (some b)→E1.IE i=E.IE b∧E1.IF i=E.IF b:=fun i b h=>by grind
 have fe:AEz N E w bx (Cx bx m) Fk m E1 (J6.mk id s.G6 c):={
  within:=S_ (FP.refl bx)
  boxes:=k1
  st:=st
  T:=fun d hd=>hd.elim .inl fun h=> .inr (.inr h)
  S:=fun d hd=> .inl hd
  ids:=ACt
  len:=by omega
  nil:=fun i d r rows e=>by
   have hk:i<s.G6.length:=by
    grind
   obtain⟨y,y1,_⟩:=q2 i _ (AM4 hk);have hp:=AM4 hk;rw[e]at y1
   generalize s.G6[i]=P at y y1 hp
   cases P with
   |mem q=>cases y1
   |gone=>cases y1
   |sl d0 r0=>grind
  sl:=fun i d r rows hi e=>by
   have hk:i<s.G6.length:=by omega
   obtain⟨y,y1,y2⟩:=q2 i _ (AM4 hk);rw[e]at y1
   generalize s.G6[i]=P at y y1 y2
   cases P with
   |mem q=>cases y1
   |gone=>cases y1
   |sl d0 r0=>
    simp only[BP.mk,ANB,Bx.sl.injEq]at y1;grind }
 have nd:=bl.nodup;have ADA:∀c∈Fs.flatten,¬E1.T c:=by
  intro d hd h;rcases h with h|h|h
  ·exact bl.free d (by simp[hd]) h
  all_goals grind
 have APZ:Oy E1 w (J6.mk id s.G6 c) id s.D2 a vals:=sw fe htm (fun q hq=>let⟨x,h1,h2⟩:=a2 q hq;⟨x,h1,cB.ext b1 h2⟩) e3;refine⟨E1,uk.mk ?_ APZ ACt hi xI (fun d hd=> .inl hd) ?_ (fun d hd=> .inl hd) ⟨Fk,k1,(AOj.1 nd).1,fun d hd=>⟨bl.free d (by simp[hd]),?_,bl.lt d (by simp[hd]),.inr (.inr hd)⟩,?_⟩⟩
 ·refine⟨Fs,⟨by simp_all,fun k B F hk hF=> ?_⟩,?_⟩
  ·have hkl:k<s.G6.length:=by
    grind
   have hp:s.G6[k]? =some s.G6[k]:=AM4 hkl;obtain⟨y,y1,y2⟩:=q2 k _ hp;rw[hk]at y1;cases y1;have hG:Gs[k]? =some (Gs[k]'(by omega)):=AM4 _;have hW:Ws[k]? =some (Ws[k]'(by omega)):=AM4 _;have hr:=f4 k _ F _ hG hF hW;rw[AS7]at hr;have AUA:∀d∈Ws[k]'(by omega),d∈Ws.flatten:=fun d hd=>ASb.2 ⟨_,APx hW,hd⟩
   generalize Ads:s.G6[k]=P at y y2 hp
   have AWh:=fun q=>b2 k q
   simp only[R,hp]at hr;cases P with
   |mem q=>
    obtain⟨b,cs,z1,z2,z3⟩:=y2;obtain⟨rfl,hW0⟩:=hr;obtain⟨hFe,arr,ty,fr,h1,h2,h3⟩:=g2 k b _ _ z1 z2 hG;obtain⟨b',eD,t1,t2,t3⟩:=AWh q hp;rw[AS7,z1]at t1;cases t1;rw[z2]at t2;cases t2;refine⟨by simp_all,arr,ty,fr,by simp_all,h2,oA fe h3 t3 z3⟩
   |sl d r=>
    obtain⟨b,d',z1,z2,z3,z4⟩:=y2;have:=hr b d' y z1 z2;refine⟨z3,?_⟩;rw[(ACt k b z1).2];exact Eb (fun d hd=>hd.elim .inl fun h=> .inr (AUA d h)) (fun _ _=>rfl) (fun _ _=>rfl) this
   |gone=>exact hr.1
  ·simp only[AOC]
   refine⟨(AOj.1 (AOj.1 nd).2.1).1,ADA,fun d hd=>bl.lt d (by simp[hd]),fun d hd=>hd.elim (fun h=> .inl (st d h)) (fun h=> .inr (.inl h)),fun d hd=> ?_⟩;rcases hd with hd|hd|hd
   ·exact bl.dV d hd
   ·exact bl.lt d (by simp[hd])
   ·exact bl.lt d (by simp[hd])
 ·intro d hd
  exact hd.elim .inl fun h=> .inr (bl.free d (by simp[h]))
 ·intro h
  rcases h with h|h
  ·exact bl.free d (by simp[hd]) (st d h)
  grind
 grind
end Go.Fw
end
section
namespace Go.Fw
def zv:Ty→Value
 | .int k=> .int k 0
 | .bool=> .bool false
 | .str=> .string ⟨#[]⟩
 |_=> .slice none 0 0
def Ej:Ty→List Value
 | .cons c r=>zv c::Ej r
 | .unit=>[]
 |t=>[zv t]
def Ty.cell:Ty→Bool
 | .unit| .cons _ _=>false
 |_=>true
def Ty.tX:Ty→Bool
 | .cons c r=>c.cell&&r.tX
 |_=>true
def eqZ:Value→Value→Bool
 | .int k n,.int k' n' =>decide (k=k')&&decide (n=n')
 | .bool a,.bool b=>decide (a=b)
 | .string a,.string b=>decide (a.data.toList=[])&&decide (b.data.toList=[])
 | .slice none a b,.slice none c d=>decide (a=c)&&decide (b=d)
 |_,_=>false
theorem AQ0{a b:Value}(h:eqZ a b=true):a=b:=by
 unfold eqZ at h;split at h
 ·simp_all
 ·simp_all
 ·rename_i a b
  simp at h;obtain⟨h1,h2⟩:=h;cases a;cases b;simp_all
 all_goals simp_all
def AAz:List Value→List Value→Bool
 |[],[]=>true
 |a::l,b::m=>eqZ a b&&AAz l m
 |_,_=>false
theorem AAP:∀{l m:List Value},AAz l m=true→l=m
 |[],[],_=>rfl
 |a::l,b::m,h=>by
  simp only[AAz,ANN]at h;rw[AQ0 h.1,AAP h.2]
 |[],_::_,h=>by simp[AAz]at h
 |_::_,[],h=>by simp[AAz]at h
def gR(P:Program)(t:Nat):TD→Prop
 | .int k=>P.underlying t=some (.int k)
 | .bool=>P.underlying t=some .bool
 | .str=>P.underlying t=some .string
 | .sl e=>P.underlying t=some (.slice e)
 | .ptr e=>P.underlying t=some (.pointer e)
 | .st fs=> ∃fields,P.underlying t=some (.struct fields)∧fields.toList.map (fun f=>(f.offset,f.type))=fs∧(∀f∈fields.toList,f.name≠ "_" ∧ ∃i,P.info? f.type=some i∧i.size≠0)∧
  P.stoodInHeld t=false∧P.eqGuardType P.depth t=false
 | .other=> ∃d,P.underlying t=some d∧d.isRow=false
structure AUW (P:Program) (T:J8) (t:Nat) (ti:TI):Prop where
 info:∃i,P.info? t=some i∧i.size=ti.size∧i.bytes=ti.bytes∧(∀r,ti.row=some r→r.tX=true∧ ∃z,i.zero=some z∧z.cells.toList=Ej r)
 und:gR P t ti.desc
def Ei(P:Program)(T:J8):Prop:= ∀t ti,T.get t=some ti→AUW P T t ti
def td(P:Program)(T:J8)(t:Nat)(ti:TI):Bool:=
 (match P.info? t with
  |some i=>decide (i.size=ti.size)&&decide (i.bytes=ti.bytes)&&(match ti.row with
   |some r=>r.tX&&(match i.zero with
    |some z=>AAz z.cells.toList (Ej r)
    |none=>false)
   |none=>true)
  |none=>false)&&
 (match ti.desc,P.underlying t with
  | .int k,some (.int k')=>decide (k=k')
  | .bool,some .bool=>true
  | .str,some .string=>true
  | .sl e,some (.slice e')=>decide (e=e')
  | .ptr e,some (.pointer e')=>decide (e=e')
  | .st fs,some (.struct fields)=>decide (fields.toList.map (fun f=>(f.offset,f.type))=fs)&&
    fields.toList.all (fun f=>decide (f.name≠ "_")&&(match P.info? f.type with|some i=>decide (i.size≠0)|none=>false))&&
    !P.stoodInHeld t&& !P.eqGuardType P.depth t
  | .other,some d=> !d.isRow
  |_,_=>false)
theorem tv{P:Program}{T:J8}{t:Nat}{ti:TI}(h:td P T t ti=true):AUW P T t ti:=by
 unfold td at h;rw[ANN]at h;obtain⟨h1,h2⟩:=h;constructor
 ·split at h1
  ·rename_i i hi
   simp only[ANN,AOH]at h1;refine⟨i,hi,h1.1.1,h1.1.2,fun r hr=> ?_⟩;obtain⟨_,h3⟩:=h1;rw[hr]at h3;dsimp only at h3;rw[ANN]at h3;grind[AAP]
  simp_all
 ·split at h2
  ·grind[gR]
  ·grind[gR]
  ·grind[gR]
  ·grind[gR]
  ·grind[gR]
  ·rename_i fs fields hd hu
   simp only[hd,gR];grind
  all_goals grind[gR]
def AFC(P:Program)(T:J8):Bool:=T.all fun q=>td P T q.1 q.2
theorem J8.get_mem:∀{T:J8} {t:Nat} {ti:TI},T.get t=some ti→(t,ti)∈T
 |(u,i)::l,t,ti,h=>by
  simp only[J8.get]at h;split at h
  ·rename_i e;cases h;subst e;simp
  ·exact AXK _ (J8.get_mem h)
 |[],_,_,h=>by simp[J8.get]at h
theorem py{P:Program}{T:J8}(h:AFC P T=true):Ei P T:=fun t ti e=>
 tv (by simpa using ASw.1 h (t,ti) (J8.get_mem e))
section
variable{P:Program} {T:J8} (hT:Ei P T)
include hT
theorem Ei.size{t:Nat}{ti:TI}(e:T.get t=some ti):(P.info? t).map (·.size)=some ti.size:=by
 obtain⟨i,h1,h2,_⟩:=(hT t ti e).info;simp_all
theorem Ei.sizeOf{t:Nat}{ti:TI}(e:T.get t=some ti)(w:World):(Go.sizeOf t).run P w= .ok ti.size w:=by
 obtain⟨i,h1,h2,_⟩:=(hT t ti e).info;simp[Go.sizeOf,typeInfo,h1,h2]
omit hT in
theorem BV{t:Nat}{d:TypeDesc}(h:P.underlying t=some d)(w:World):(Go.underlying t).run P w= .ok d w:=by
 simp[Go.underlying,h]
theorem Ei.isAgg{t:Nat}{ti:TI}(e:T.get t=some ti)(w:World):(Go.isAgg t).run P w= .ok ti.desc.agg w:=by
 have hu:=(hT t ti e).und;unfold Go.isAgg;cases hd:ti.desc<;>rw[hd]at hu<;>simp only[gR]at hu
 case st fs=>
  obtain⟨fields,hu,_⟩:=hu;simp[BV hu,TD.agg]
 case other=>
  obtain⟨d,hu,hd⟩:=hu;rw[Sem.run_bind,BV hu];cases d<;>simp_all[TypeDesc.isRow,TD.agg]
 all_goals simp[BV hu,TD.agg]
end
end Go.Fw
end
section
namespace Go.Fw
def Lw{Y:Type}(P:Program)(o:Oper)(E:Env)(σ:St)(a:Act)(w:World)(k:K Y)(y:Y):Prop:=
 ∃v w' E' x σ',((execOp a.eval o).run P w= .ok (.value v) w'∨((execOp a.eval o).run P w= .ok .skip w'∧v=undef))∧Rel E' σ' a w'∧XR E' w' σ'.bx x v∧SD (Kl (fun _=>none) σ o.op) E σ.bx w E' σ'.bx w'∧
  σ'.tm.length=σ.tm.length∧k x σ' =some y
section
variable{Y:Type} {P:Program} {T:J8} {o:Oper} {E:Env} {σ:St} {a:Act} {w:World} {k:K Y} {y:Y}
theorem Lw.same(h:Rel E σ a w){v:Value}{x:XV}(hr:(execOp a.eval o).run P w= .ok (.value v) w)(hx:XR E w σ.bx x v)(hk:k x σ=some y):Lw P o E σ a w k y:=
 ⟨v,w,E,x,σ,.inl hr,h,hx,SD.refl _ E σ.bx w,rfl,hk⟩
theorem cK{vw:List Bx}{κ:IntKind}{n:Int}{v:Value}(h:VR E w vw (.v (.int κ) n) v):v= .int κ n:=by
 have:=h.2;grind[Rd]
theorem SK{vw:List Bx}{b:Bool}{v:Value}(h:VR E w vw (.v .bool b) v):v= .bool b:=by
 have:=h.2;grind[Rd]
theorem YA{vw:List Bx}{s:AB_}{v:Value}(h:VR E w vw (.v .str s) v):v= .string ⟨s.toArray⟩:=by
 have:=h.2;grind[Rd]
theorem VR.int{vw:List Bx}(κ:IntKind)(n:Int):VR E w vw (.v (.int κ) n) (.int κ n):=⟨rfl,by rfl⟩
theorem VR.bool{vw:List Bx}(b:Bool):VR E w vw (.v .bool b) (.bool b):=⟨rfl,by rfl⟩
theorem VR.str{vw:List Bx}(s:AB_):VR E w vw (.v .str s) (.string ⟨s.toArray⟩):=⟨rfl,by rfl⟩
theorem XL(s:AB_):ByteArray.toList ⟨s.toArray⟩=s:=by
 simp_all
theorem tJ(a b:AB_):(⟨a.toArray⟩:ByteArray)++⟨b.toArray⟩=⟨(a++b).toArray⟩:=by
 rfl
theorem wX(op:BinOp)(t:TypeId)(x y:Operand)(u v:Value)(hu:∀l,u≠ .agg l)(hn:u≠ .nilIface)(w:World):(eqGuard op t x y u v).run P w= .ok () w:=by
 unfold eqGuard;simp_all
theorem vW{op:BinOp}{κ:IntKind}{m n:Int}{k:AV→Option Y}{y:Y}(e:gA op κ m n k=some y)(t:TypeId)(w:World):
  ∃z v,k z=some y∧(binOp op t (.int κ m) (.int κ n)).run P w= .ok v w∧ ∀E vw,VR E w vw z v:=by
 cases op with
 |add=>exact⟨_,.int κ (κ.wrap (m+n)),e,by simp[binOp,Op.intArith],fun _ _=>VR.int _ _⟩
 |sub=>exact⟨_,.int κ (κ.wrap (m-n)),e,by simp[binOp,Op.intArith],fun _ _=>VR.int _ _⟩
 |mul=>exact⟨_,.int κ (κ.wrap (m*n)),e,by simp[binOp,Op.intArith],fun _ _=>VR.int _ _⟩
 |and=>exact⟨_,.int κ (κ.wrap (BitVec.ofInt κ.bits m &&& BitVec.ofInt κ.bits n).toNat),e,by simp[binOp,Op.intBits],fun _ _=>VR.int _ _⟩
 |or=>exact⟨_,.int κ (κ.wrap (BitVec.ofInt κ.bits m ||| BitVec.ofInt κ.bits n).toNat),e,by simp[binOp,Op.intBits],fun _ _=>VR.int _ _⟩
 |xor=>exact⟨_,.int κ (κ.wrap (BitVec.ofInt κ.bits m ^^^ BitVec.ofInt κ.bits n).toNat),e,by simp[binOp,Op.intBits],fun _ _=>VR.int _ _⟩
 |andNot=>exact⟨_,.int κ (κ.wrap (BitVec.ofInt κ.bits m &&& ~~~BitVec.ofInt κ.bits n).toNat),e,by simp[binOp,Op.intBits],fun _ _=>VR.int _ _⟩
 |eql=>exact⟨_,.bool (m==n),e,by simp[binOp,Op.intCmp],fun _ _=>VR.bool _⟩
 |neq=>exact⟨_,.bool (m !=n),e,by simp[binOp,Op.intCmp],fun _ _=>VR.bool _⟩
 |lss=>exact⟨_,.bool (decide (m<n)),e,by simp[binOp,Op.intCmp],fun _ _=>VR.bool _⟩
 |leq=>exact⟨_,.bool (decide (m≤n)),e,by simp[binOp,Op.intCmp],fun _ _=>VR.bool _⟩
 |gtr=>exact⟨_,.bool (decide (m>n)),e,by simp[binOp,Op.intCmp],fun _ _=>VR.bool _⟩
 |geq=>exact⟨_,.bool (decide (m≥n)),e,by simp[binOp,Op.intCmp],fun _ _=>VR.bool _⟩
 |quo=>
  simp only[gA]at e;split at e
  ·cases e
  ·rename_i hz
   exact⟨_,.int κ (κ.wrap (m.tdiv n)),e,by simp[binOp,Op.intDiv,hz],fun _ _=>VR.int _ _⟩
 |rem=>
  simp only[gA]at e;split at e
  ·cases e
  ·rename_i hz
   exact⟨_,.int κ (m.tmod n),e,by simp[binOp,Op.intDiv,hz],fun _ _=>VR.int _ _⟩
 |_=>simp[gA]at e
theorem gI{op:BinOp}{κ κ':IntKind}{m n:Int}{k:AV→Option Y}{y:Y}(e:Zw op κ m n k=some y)(t:TypeId)(w:World):
  ∃z v,k z=some y∧(binOp op t (.int κ m) (.int κ' n)).run P w= .ok v w∧ ∀E vw,VR E w vw z v:=by
 unfold Zw at e;split at e
 ·cases e
 ·rename_i hn
  cases op with
  |shl=>exact⟨_,.int κ (κ.wrap (m*2^min n.toNat κ.bits)),e,by simp[binOp,Op.shift,hn],fun _ _=>VR.int _ _⟩
  |shr=>exact⟨_,.int κ (m.fdiv (2^min n.toNat κ.bits)),e,by simp[binOp,Op.shift,hn],fun _ _=>VR.int _ _⟩
  |_=>simp at e
theorem w9{op:BinOp}{s u:AB_}{k:AV→Option Y}{y:Y}(e:iu op s u k=some y)(t:TypeId)(w:World):
  ∃z v,k z=some y∧(binOp op t (.string ⟨s.toArray⟩) (.string ⟨u.toArray⟩)).run P w= .ok v w∧ ∀E vw,VR E w vw z v:=by
 have h1:=XL s;have h2:=XL u;cases op with
 |eql=>exact⟨_,.bool (s==u),e,by simp[binOp,Op.stringOp,h1,h2],fun _ _=>VR.bool _⟩
 |neq=>exact⟨_,.bool (!(s==u)),e,by simp[binOp,Op.stringOp,h1,h2],fun _ _=>VR.bool _⟩
 |lss=>exact⟨_,.bool (Op.bytesLess s u),e,by simp[binOp,Op.stringOp,h1,h2],fun _ _=>VR.bool _⟩
 |leq=>exact⟨_,.bool (Op.bytesLess s u||s==u),e,by simp[binOp,Op.stringOp,h1,h2],fun _ _=>VR.bool _⟩
 |gtr=>exact⟨_,.bool (!(Op.bytesLess s u||s==u)),e,by simp[binOp,Op.stringOp,h1,h2],fun _ _=>VR.bool _⟩
 |geq=>exact⟨_,.bool (!Op.bytesLess s u),e,by simp[binOp,Op.stringOp,h1,h2],fun _ _=>VR.bool _⟩
 |add=>
  simp only[iu]at e;split at e
  ·rename_i hl
   refine⟨_,.string ⟨(s++u).toArray⟩,e,?_,fun _ _=>VR.str _⟩;have hs:(⟨s.toArray⟩:ByteArray).size=s.length:=by rfl
   have hu:(⟨u.toArray⟩:ByteArray).size=u.length:=by rfl
   have Ym: ¬(((⟨s.toArray⟩:ByteArray).size+(⟨u.toArray⟩:ByteArray).size:Nat):Int)>IntKind.i64.max:=by
    grind[C7,IntKind.max,IntKind.signed,IntKind.bits]
   simp only[binOp,Op.stringOp,Sem.run_ite,AM2 Ym,tJ];rfl
  simp_all
 |_=>simp[iu]at e
theorem uu{d:TD}{x z:AV}{p:Bool}(e:qD d x z=some p){E:Env}{w:World}{vw:List Bx}{v u:Value}(hx:VR E w vw x v)(hz:VR E w vw z u){t:TypeId}
  (hu:gR P t d) (n:Nat):(Op.equalIn (n+1) t v u).run P w= .ok p w∧d.agg=false:=by
 unfold qD at e;split at e
 ·rename_i κ j a k b
  split at e
  ·rename_i hj
   subst hj;cases e;rw[cK hx,cK hz];exact⟨run_equalIn_int (P:=P) w n t j κ a b hu,rfl⟩
  simp_all
 ·cases e
  rw[SK hx,SK hz];exact⟨run_equalIn_bool' (P:=P) w n t _ _ hu,rfl⟩
 ·cases e
  rename_i a b;rw[YA hx,YA hz];have q:=run_equalIn_string (P:=P) w n t ⟨a.toArray⟩ ⟨b.toArray⟩ hu;rw[XL,XL]at q;exact⟨q,rfl⟩
 simp_all
theorem gD{T:J8}(hT:Ei P T){E:Env}{w:World}{vw:List Bx}{xs ys:Array Value}:∀{fields:List Field} {i:Nat} {l m:List AV} {vs us:List Value} {r:Bool},
  (∀f∈fields,f.name≠ "_")→jj E w vw l vs→jj E w vw m us→LV T i (fields.map fun f=>(f.offset,f.type)) l m=some r→
  (∀(j:Nat) v,vs[j]? =some v→xs[i+j]? =some v)→(∀(j:Nat) v,us[j]? =some v→ys[i+j]? =some v)→(Op.eqFields 9999 xs ys fields).run P w= .ok r w
 |[],i,[],[],_,_,r,_,_,_,e,_,_=>by
  simp only[AVg,LV,ANB]at e;subst e;rfl
 |f::fs,i,x::l,z::m,v::vs,u::us,r,hn,hx,hz,e,h1,h2=>by
  simp only[ATB,LV]at e;split at e
  case isFalse=>cases e
  rename_i ho;have hv:=h1 0 v rfl;have hu:=h2 0 u rfl;simp only[ATG]at hv hu;have AWn:=hn f (by simp);split at e
  case h_2=>cases e
  rename_i ti Vr;split at e
  case h_2=>cases e
  rename_i p hp;simp only[AND]at e;obtain⟨r',e',rfl⟩:=e;have Aaa:=gD hT (fields:=fs) (i:=i+1) (l:=l) (m:=m) (vs:=vs) (us:=us) (r:=r') (fun f hf=>hn f (by simp[hf])) hx.2 hz.2 e'
   (fun j v' hj=>by have:=h1 (j+1) v' (by simp_all);rwa [show i+(j+1)=i+1+j by omega]at this)
   (fun j v' hj=>by have:=h2 (j+1) v' (by simp_all);rwa [show i+(j+1)=i+1+j by omega]at this)
  have jX:=(hT f.type ti Vr).und;obtain⟨q,na⟩:=uu (P:=P) hp hx.1 hz.1 (t:=f.type) jX 9998;have jG:=Ei.isAgg hT Vr w;rw[na]at jG;have p1:(part f.type xs f.offset).run P w= .ok v w:=by simp[part,jG,ho,hv]
  have p2:(part f.type ys f.offset).run P w= .ok u w:=by simp[part,jG,ho,hu]
  simp only[Op.eqFields,AWn,ne_eq,not_false_eq_true,ASi,Sem.run_bind,p1,p2,Result.andThen_ok,q,Aaa,Sem.run_ite,Sem.run_pure];grind
 |[],_,_::_,_,_,_,_,_,_,_,e,_,_=>by simp[LV]at e
 |[],_,[],_::_,_,_,_,_,_,_,e,_,_=>by simp[LV]at e
 |_::_,_,[],_,_,_,_,_,_,_,e,_,_=>by simp[LV]at e
 |_::_,_,x::_,[],_,_,_,_,_,_,e,_,_=>by simp[LV]at e
 |_::_,_,_::_,_::_,[],_,_,_,hx,_,_,_,_=>hx.elim
 |_::_,_,_::_,_::_,_::_,[],_,_,_,hz,_,_,_=>hz.elim
theorem pE(op:BinOp)(t:TypeId)(p q:Bool)(hu:P.underlying t=some .bool)(w:World):(op= .eql→(binOp op t (.bool p) (.bool q)).run P w= .ok (.bool (p==q)) w)∧
  (op= .neq→(binOp op t (.bool p) (.bool q)).run P w= .ok (.bool (!(p==q))) w):=by
 have h:=run_equalIn_bool' (P:=P) w 9999 t p q hu;constructor
 ·rintro rfl
  grind[binOp,Op.equal,Op.maxDepth,Sem.run_bind,Result.andThen_ok,Sem.run_pure]
 ·rintro rfl
  grind[binOp,Op.equal,Op.maxDepth,Sem.run_bind,Result.andThen_ok,Sem.run_pure]
theorem iT{T:J8}(hT:Ei P T){t:Nat}{op:BinOp}{x z:XV}{k:AV→Option Y}{y:Y}(e:v_ T t op x z k=some y){E:Env}{w:World}{vw:List Bx}{v u:Value}
  (hx:XR E w vw x v) (hz:XR E w vw z u) (ox oz:Operand):
  ∃r val,k r=some y∧(do eqGuard op t ox oz v u;binOp op t v u:Sem Value).run P w= .ok val w∧VR E w vw r val:=by
 have guard:∀(v u:Value),(∀l,v≠ .agg l)→v≠ .nilIface→ ∀val,(binOp op t v u).run P w= .ok val w→(do eqGuard op t ox oz v u;binOp op t v u:Sem Value).run P w= .ok val w:=by
  grind[Sem.run_bind,wX,Result.andThen_ok]
 unfold v_ at e;split at e
 ·rename_i j m j' n
  have hv:=cK (E:=E) (vw:=vw) hx;have hu:=cK (E:=E) (vw:=vw) hz;subst hv hu;have done:∀(q:∃r val,k r=some y∧(binOp op t (.int j m) (.int j' n)).run P w= .ok val w∧ ∀E vw,VR E w vw r val),∃r val,k r=some y∧(do eqGuard op t ox oz (.int j m) (.int j' n);binOp op t (.int j m) (.int j' n):Sem Value).run P w= .ok val w∧VR E w vw r val:=by
   grind
  split at e
  ·exact done (gI e t w)
  ·exact done (gI e t w)
  ·split at e
   ·rename_i hj
    subst hj;exact done (vW e t w)
   simp_all
 ·rename_i s s'
  have hv:=YA (E:=E) (vw:=vw) hx;have hu:=YA (E:=E) (vw:=vw) hz;subst hv hu;obtain⟨r,val,h1,h2,h3⟩:=w9 (P:=P) e t w;grind
 ·rename_i p q
  have hv:=SK (E:=E) (vw:=vw) hx;have hu:=SK (E:=E) (vw:=vw) hz;subst hv hu;split at e
  ·rename_i ti Vr
   have jX:=(hT t ti Vr).und;split at e
   ·rename_i hd
    rw[hd]at jX;split at e
    ·exact⟨_,_,e,guard _ _ (by simp) (by simp) _ ((pE _ t p q jX w).1 rfl),VR.bool _⟩
    ·exact⟨_,_,e,guard _ _ (by simp) (by simp) _ ((pE _ t p q jX w).2 rfl),VR.bool _⟩
    simp_all
   simp_all
  simp_all
 ·rename_i l m
  obtain⟨vs,rfl,Wl⟩:=hx;obtain⟨us,rfl,hus⟩:=hz;have key:∀r,((T.fields t).bind fun fs=>LV T 0 fs l m)=some r→(Op.equalIn 10000 t (.agg vs) (.agg us)).run P w= .ok r w∧P.eqGuardType P.depth t=false:=by
   intro r hr;simp only[ANU]at hr;obtain⟨fs,hf,hr⟩:=hr;unfold J8.fields at hf;split at hf
   ·rename_i fs' hd
    cases hf;simp only[AND]at hd;obtain⟨ti,Vr,hd⟩:=hd;have jX:=(hT t ti Vr).und;rw[hd]at jX;obtain⟨fields,hu,hfs,hnm,rA,hg⟩:=jX;grind[Program.fieldsOf,run_equalIn_agg,gD]
   simp_all
  split at e
  ·rename_i r hr
   obtain⟨q,hg⟩:=key r hr;refine⟨_,_,e,?_,VR.bool r⟩;grind[Sem.run_bind,run_eqGuard_agg,Result.andThen_ok,run_eql_struct]
  ·rename_i r hr
   obtain⟨q,hg⟩:=key r hr;refine⟨_,_,e,?_,VR.bool (!r)⟩;grind[Sem.run_bind,run_eqGuard_agg,Result.andThen_ok,run_neq_struct]
  simp_all
 simp_all
end
end Go.Fw
end
section
namespace Go.Fw
section
variable{Y:Type} {P:Program} {T:J8} (hT:Ei P T) {E:Env} {w:World} {vw:List Bx}
include hT
theorem AIo{t:Nat}{s b:Nat}{fs:List ACT}{rw:Option Ty}(e:T.get t=some ⟨s,b,.st fs,rw⟩):∃fields,P.underlying t=some (.struct fields)∧fields.toList.map (fun f=>(f.offset,f.type))=fs∧
  ∀f∈fields.toList,∃i,P.info? f.type=some i∧i.size≠0:=by
 obtain⟨fields,h1,h2,h3,_⟩:=(hT t _ e).und;simp_all
omit hT in
theorem pW{a:Addr}{f:Field}(h:∃i,P.info? f.type=some i∧i.size≠0):(fieldPlace a f).run P w= .ok (a.add f.offset) w:=by
 obtain⟨i,h1,h2⟩:=h;simp[fieldPlace,Go.sizeOf,typeInfo,h1,h2]
theorem VQ{t:Nat}{s b:Nat}{fs:List ACT}{rw:Option Ty}(e:T.get t=some ⟨s,b,.st fs,rw⟩){f o u:Nat}(hf:fs[f]? =some (o,u)){a:Addr}:
  (Instr.fieldAt t (.pointer (some a)) f).run P w= .ok (.pointer (some (a.add o))) w:=by
 obtain⟨fields,h1,h2,h3⟩:=AIo hT e;subst h2;simp only[ASa,AND]at hf;obtain⟨fld,xO,he⟩:=hf;have hm:=APx xO;have hfa:fields[f]? =some fld:=by simp_all
 simp only[ASM]at he;simp[Instr.fieldAt,BV h1,hfa,Instr.sureAddr,pW (h3 fld hm),he.1]
theorem j7{t:Nat}{x z:XV}{f:Nat}(e:uo T t x f=some z){v:Value}(hx:XR E w vw x v):∃u,(Instr.fieldAt t v f).run P w= .ok u w∧XR E w vw z u:=by
 unfold uo at e;split at e
 case h_2=>cases e
 rename_i s b fs _ Vr;split at e
 case h_2=>cases e
 rename_i o u hf;split at e
 ·rename_i b' j
  cases e;obtain⟨h1,rfl⟩:=hx;exact⟨_,VQ hT Vr hf,h1,by rw[Addr.add_eq]⟩
 ·rename_i b' p i sz j
  cases e;obtain⟨h0,h1⟩:=hx;cases v with
  |pointer oa=>
   cases oa with
   |none=>simp[cy]at h0
   |some a=>
    obtain⟨ab,ao,sp⟩:=a;cases sp with
    |some _=>simp[cy]at h0
    |none=>
     refine⟨_,VQ hT Vr hf,by rw[Addr.add_eq];rfl,?_⟩;revert h1;split
     ·rintro⟨hp,q,ys,bb,o',len,cap,g1,g2,g3,g4⟩
      refine⟨hp,q,ys,bb,o',len,cap,g1,g2,g3,?_⟩;simp only[Value.pointer.injEq,ANB,Addr.mk.injEq,ASq]at g4;grind[Addr.add_eq,Nat.add_assoc]
     all_goals simp_all
  |_=>simp[cy]at h0
 ·rename_i s r y j
  cases e;obtain⟨bb,o',cs,rfl,h2,h3,h4,h5⟩:=hx;refine⟨_,VQ hT Vr hf,bb,o',cs,?_,h2,h3,h4,h5⟩;rw[Addr.add_eq,ATC]
 simp_all
theorem mW{t:Nat}{x z:XV}{f:Nat}(e:AEw T t x f=some z){v:Value}(hx:XR E w vw x v):∃u,(Instr.field t v f).run P w= .ok u w∧XR E w vw z u:=by
 unfold AEw at e;split at e
 case h_2=>cases e
 rename_i s b fs _ l Vr;obtain⟨vs,rfl,Wl⟩:=hx;split at e
 case h_2=>cases e
 rename_i o u hf;split at e
 case h_2=>cases e
 rename_i ti htu;obtain⟨fields,h1,h2,h3⟩:=AIo hT Vr;subst h2;simp only[ASa,AND]at hf;obtain⟨fld,xO,he⟩:=hf;have hfa:fields[f]? =some fld:=by simp_all
 simp only[ASM]at he;obtain⟨rfl,rfl⟩:=he;have jG:=Ei.isAgg hT htu w;have P5:=Ei.sizeOf hT htu w;split at e
 ·rename_i ha
  cases e;rw[ha]at jG;refine⟨.agg (vs.extract fld.offset (fld.offset+ti.size)),?_,_,rfl,?_⟩
  ·simp[Instr.field,BV h1,hfa,asAgg,part,jG,P5]
  ·have:(vs.extract fld.offset (fld.offset+ti.size)).toList=(vs.toList.drop fld.offset).take ti.size:=by
    simp_all
   rw[this];exact CW.take _ (CW.drop _ Wl)
 ·rename_i ha
  simp only[AQV]at ha;rw[ha]at jG;simp only[AND]at e;obtain⟨y,hy,rfl⟩:=e;obtain⟨v,hv,hr⟩:=CW.get Wl hy;refine⟨v,?_,hr⟩;have:vs[fld.offset]? =some v:=by simp_all
  simp[Instr.field,BV h1,hfa,asAgg,part,jG,this]
theorem K7{t:Nat}{r:Ty}(h:T.Nv t r=true):∃e ti,P.underlying t=some (.slice e)∧T.get e=some ti∧ti.size=r.n∧ti.bytes≤512∧ti.row=some r:=by
 unfold J8.Nv at h;split at h
 ·rename_i ti Vr
  simp only[ANN,AOH]at h;unfold J8.elem at Vr;split at Vr
  ·rename_i e hd
   simp only[AND]at hd;obtain⟨tj,h1,h2⟩:=hd;have:=(hT t tj h1).und;rw[h2]at this;exact⟨e,ti,this,Vr,h.1.1,h.1.2,h.2⟩
  simp_all
 simp_all
theorem Xu{t:Nat}(h:T.isStr t=true):P.underlying t=some .string:=by
 unfold J8.isStr at h;split at h
 ·rename_i hd
  simp only[AND]at hd;obtain⟨tj,h1,h2⟩:=hd;have:=(hT t tj h1).und;rw[h2]at this;exact this
 simp_all
theorem kI{t:Nat}(h:T.AIZ t=true):∃e,P.underlying t=some (.slice e):=by
 unfold J8.AIZ at h;split at h
 ·rename_i e hd
  simp only[AND]at hd;obtain⟨tj,h1,h2⟩:=hd;have:=(hT t tj h1).und;rw[h2]at this;exact⟨e,this⟩
 simp_all
omit hT in
theorem I1{x:XV}{n:Int}(e:eS x=some n){v:Value}(hx:XR E w vw x v):∃κ,v= .int κ n:=by
 unfold eS at e;split at e
 ·cases e;exact⟨_,cK (E:=E) (w:=w) (vw:=vw) hx⟩
 ·cases e
theorem dt{t:Nat}{r:Ty}(h:T.Nv t r=true){κ:IntKind}{i:Int}{a:Addr}{len cap:Nat}(h0:0≤i)(h1:i<(len:Int)):
  (Instr.indexAt t (.slice (some a) len cap) (.int κ i)).run P w= .ok (.pointer (some (a.add (i.toNat*r.n)))) w:=by
 obtain⟨e,ti,hu,Vr,hs,_⟩:=K7 hT h;have P5:=Ei.sizeOf hT Vr w;simp[Instr.indexAt,asIntOf,BV hu,h0,h1,P5,hs]
omit hT in
theorem yF{bx:List Bx}{Fs:List ABG}(hB:N9 E w bx bx Fs)(st:∀c,E.S c→E.T c){x:AV}{v:Value}(hv:VR E w bx x v){q:Ty}{ys:List q.D}(e:N5 bx x=some ⟨q,ys⟩):
  ∃a cap,v= .slice a ys.length cap∧ys.length≤cap∧(ys.length=0∨ ∃b o,a=some ⟨b,o,none⟩):=by
 have:=ah (FP.refl bx) hB st hv e;simp only[Rd]at this;obtain⟨a,cap,h1,h2,h3⟩:=this;simp only[AR6,ASq]at h1;exact⟨a,cap,h1,h2,h3.imp id fun⟨b,o,h,_⟩=>⟨b,o,h⟩⟩
theorem jU{σ:St}{Fs:List ABG}(hB:N9 E w σ.bx σ.bx Fs)(st:∀c,E.S c→E.T c){t:Nat}{x i:XV}{k:K Y}{y:Y}(e:ll σ T t x i k=some y){v u:Value}
  (hx:XR E w σ.bx x v) (hi:XR E w σ.bx i u):∃z val,k z σ=some y∧(Instr.indexAt t v u).run P w= .ok val w∧XR E w σ.bx z val:=by
 unfold ll at e;split at e
 ·rename_i s r rows n hn
  obtain⟨κ,rfl⟩:=I1 hn hi;split at e
  case isFalse=>cases e
  rename_i Vb;split at e
  case isFalse=>cases e
  rename_i hb;obtain⟨h0,h1⟩:=hb;simp only[XR,VR,Rd]at hx;obtain⟨a,cap,hv,hl,hx⟩:=hx;simp only[AR6,ASq]at hv;subst hv;rcases hx with hx|⟨b,o,rfl,hb,hx⟩
  ·omega
  ·have G4:n.toNat<rows.length:=by omega
   obtain⟨cs,c1,c2,c3⟩:=hx n.toNat _ (RX G4);refine⟨_,_,e,dt hT Vb h0 h1,b,o+n.toNat*r.n,cs,?_,by omega,c1,c2,by omega⟩;rw[Addr.add_eq];rfl
 ·rename_i b p n hn
  obtain⟨κ,rfl⟩:=I1 hn hi;split at e
  case h_2=>cases e
  rename_i q hq;split at e
  case isFalse=>cases e
  rename_i Vb;split at e
  case isFalse=>cases e
  rename_i hb;obtain⟨h0,h1⟩:=hb
  change VR E w σ.bx (.ref b p) v at hx
  obtain⟨a,cap,rfl,hl,ha⟩:=yF hB st hx hq;rcases ha with ha|⟨b',o,rfl⟩
  ·omega
  ·refine⟨_,_,e,dt hT Vb h0 h1,by rw[Addr.add_eq];rfl,?_⟩
   simp only[N5]at hq;obtain⟨_,hx⟩:=hx;grind[Addr.add_eq]
 ·rename_i b p off n' n hn
  obtain⟨κ,rfl⟩:=I1 hn hi;split at e
  case h_2=>cases e
  rename_i q hq;split at e
  case isFalse=>cases e
  rename_i Vb;split at e
  case isFalse=>cases e
  rename_i hb;obtain⟨h0,h1⟩:=hb;simp only[N5]at hq;obtain⟨h00,hx⟩:=hx;revert hx;split
  ·rename_i d r rows vF
   rw[vF]at hq;dsimp only at hq
   rintro⟨hp,q',ys,a,len,cap,g1,g2,g3,rfl⟩
   have ZN:=eV (FP.refl _) hB st vF hp g1 g3;simp only[Rd]at ZN;obtain⟨a',cap',ee,hle,ZN⟩:=ZN;simp only[AR6,Value.slice.injEq,ASq]at ee;obtain⟨rfl,rfl,rfl⟩:=ee;rcases ZN with ZN|⟨b',o,rfl,_,_⟩
   ·omega
   ·unfold WH
    rw[AM2 (by omega)];have hq1:q.1=q':=by
     grind
    refine⟨_,_,e,dt hT Vb h0 h1,by simp only[Option.map];rw[Addr.add_eq,Addr.add_eq];rfl,?_⟩;grind[Addr.add_eq,Nat.add_assoc,Nat.add_mul]
  all_goals simp_all
 simp_all
theorem dH{σ:St}{t:Nat}{x i:XV}{k:K Y}{y:Y}(e:Xc T t σ x i k=some y){v u:Value}(hx:XR E w vw x v)(hi:XR E w vw i u):
  ∃z val,k z σ=some y∧(Instr.index t v u).run P w= .ok val w∧XR E w vw z val:=by
 unfold Xc at e;split at e
 ·rename_i s n hn
  obtain⟨κ,rfl⟩:=I1 hn hi;have hv:=YA (E:=E) (w:=w) (vw:=vw) hx;subst hv;split at e
  case isFalse=>cases e
  rename_i rA;split at e
  case isFalse=>cases e
  rename_i hb;obtain⟨h0,h1⟩:=hb;refine⟨_,.int .u8 ((s.getD n.toNat 0).toNat:Int),e,?_,VR.int (E:=E) (vw:=vw) _ _⟩;have G4:n.toNat<s.length:=by omega
  have:(⟨s.toArray⟩:ByteArray)[n.toNat]? =some s[n.toNat]:=by
   rw[getElem?_pos _ _ (by grind[ByteArray.size])];rfl
  simp[Instr.index,asIntOf,BV (Xu hT rA),h0,this,G4]
 simp_all
omit hT in
theorem da{x z:XV}{i:Nat}(e:qk x i=some z){v:Value}(hx:XR E w vw x v):∃u,(Instr.extract v i).run P w= .ok u w∧XR E w vw z u:=by
 unfold qk at e;split at e
 case h_2=>cases e
 rename_i l;obtain⟨vs,rfl,Wl⟩:=hx;split at e
 ·rename_i x hx
  cases e;obtain⟨v,hv,hr⟩:=Wl.get hx;have:vs[i]? =some v:=by simpa using hv
  exact⟨v,by simp[Instr.extract,this],hr⟩
 ·rename_i q hx
  cases e;obtain⟨v,hv,ws,rfl,hr⟩:=Wl.get hx;have:vs[i]? =some (.agg ws):=by simpa using hv
  exact⟨.agg ws,by simp[Instr.extract,this],ws,rfl,hr⟩
 ·cases e
omit hT in
theorem mH{bx:List Bx}{Fs:List ABG}(hB:N9 E w bx bx Fs)(st:∀c,E.S c→E.T c){x:AV}{n:Nat}(e:lenOf bx x=some n){v:Value}(hx:VR E w bx x v):
  ∃a cap,v= .slice a n cap:=by
 cases x with
 |nil=>simp only[lenOf,ANB]at e;subst e;exact⟨_,_,hx⟩
 |sl s r x=>
  simp only[lenOf,ANB]at e;subst e;simp only[VR,Rd]at hx;obtain⟨a,cap,h,_⟩:=hx;simp only[AR6,ASq]at h;exact⟨a,cap,h⟩
 |ref b p=>
  simp only[lenOf]at e;split at e
  ·rename_i d r rows hb
   simp only[AND]at e;obtain⟨q,hq,rfl⟩:=e;obtain⟨a,cap,h,_⟩:=yF hB st hx (q:=q.1) (ys:=q.2) (by simp only[N5,hb];exact hq);exact⟨a,cap,h⟩
  ·cases e
 |win b p off m=>
  simp only[lenOf]at e;split at e
  ·rename_i d r rows hb
   cases e;simp only[VR,hb]at hx;obtain⟨_,_,q,ys,a,len,cap,_,_,_,rfl⟩:=hx;exact⟨_,_,rfl⟩
  ·cases e
 |_=>simp[lenOf]at e
omit hT in
theorem Ue{big:Bool}{x z:XV}{k:AV→Option Y}{y:Y}(e:uh big x z k=some y){v u:Value}(hx:XR E w vw x v)(hz:XR E w vw z u)(t s:Array TypeId)(tt:TypeId):
  ∃r val,k r=some y∧(if big then Builtin.max_ t tt #[v,u]else Builtin.min_ t tt #[v,u]).run P w= .ok val w∧VR E w vw r val:=by
 unfold uh at e;split at e
 ·rename_i j m j' n
  have hv:=cK (E:=E) (w:=w) (vw:=vw) hx;have hu:=cK (E:=E) (w:=w) (vw:=vw) hz;subst hv hu;split at e
  case isFalse=>cases e
  rename_i hj;subst hj;cases big with
  |true=>exact⟨_,.int j (if n>m then n else m),e,by simp[Builtin.max_,Builtin.max2],VR.int _ _⟩
  |false=>exact⟨_,.int j (if n<m then n else m),e,by simp[Builtin.min_,Builtin.min2],VR.int _ _⟩
 ·cases e
omit hT in
theorem kj{op:UnOp}{x:XV}{k:AV→Option Y}{y:Y}(e:unX op x k=some y){v:Value}(hx:XR E w vw x v):
  ∃r val,k r=some y∧(Op.unary op v).run P w= .ok val w∧VR E w vw r val:=by
 unfold unX at e;split at e
 ·have hv:=SK (E:=E) (w:=w) (vw:=vw) hx
  subst hv;exact⟨_,_,e,by simp[Op.unary],VR.bool _⟩
 ·rename_i j n
  have hv:=cK (E:=E) (w:=w) (vw:=vw) hx;subst hv;exact⟨_,.int j (j.wrap (0-n)),e,by simp[Op.unary,Op.intArith],VR.int _ _⟩
 ·cases e
end
end Go.Fw
end
section
namespace Go.Fw
theorem Rh{a:Ty}(x:a.D):oM rfl x=x:=rfl
theorem ey{w:World}{S:Nat→Prop}:∀{r:Ty} {d j:Nat} {cs:List Value} {x:r.D} {F:ABG} {t:Ty} {y:t.D},Ow w S d r cs x F→BN r j x=some ⟨t,y⟩→
  ∃v F1 F2,cs[j]? =some v∧Ow w S d t [v] y F1∧F.Perm (F1++F2)∧
   ∀(w':World) (S':Nat→Prop) (v':Value) (y':t.D) (oF:ABG) (x':r.D),(∀b,S b→S' b)→(∀b,S b→w'.heap[b]? =w.heap[b]?)→(∀b∈F2,w'.heap[b]? =w.heap[b]?)→
    Ow w' S' d t [v'] y' oF→D5 r j x t y' =some x'→ ∃F',F'.Perm (oF++F2)∧Ow w' S' d r (cs.set j v') x' F'
 | .cons c r,d,0,cs,x,F,t,y,h,e=>by
  simp only[Ow]at h;obtain⟨v,l,A,B,rfl,rfl,h1,h2⟩:=h;simp only[BN,ANB,AOQ]at e;obtain⟨rfl,e⟩:=e;obtain rfl:=ASX e;refine⟨v,A,B,rfl,h1,AXS _,fun w' S' v' y' oF x' hS sr hF ho hx=> ?_⟩;simp only[D5,AXC,Rh,ANB]at hx;subst hx;refine⟨oF++B,AXS _,?_⟩;simp only[Ow,AUE];exact⟨v',l,oF,B,rfl,rfl,ho,Eb hS sr hF h2⟩
 | .cons c r,d,j+1,cs,x,F,t,y,h,e=>by
  simp only[Ow]at h;obtain⟨v,l,A,B,rfl,rfl,h1,h2⟩:=h;simp only[BN]at e;obtain⟨u,F1,F2,k1,k2,k3,k4⟩:=ey h2 e;refine⟨u,F1,A++F2,by simp_all,k2,?_,fun w' S' v' y' oF x' hS sr hF ho hx=> ?_⟩
  ·grind
  ·simp only[D5,AND]at hx
   obtain⟨z,hz,rfl⟩:=hx;obtain⟨F',p1,p2⟩:=k4 w' S' v' y' oF z hS sr (fun b hb=>hF b (by simp[hb])) ho hz;refine⟨A++F',?_,?_⟩
   ·grind
   ·simp only[Ow,List.set_cons_succ]
    exact⟨v,_,A,F',rfl,rfl,Eb hS sr (fun b hb=>hF b (by simp[hb])) h1,p2⟩
 | .int k,d,0,cs,x,F,t,y,h,e=>by
  simp only[BN,ANB,AOQ]at e;obtain⟨rfl,e⟩:=e;obtain rfl:=ASX e;have hc:=Yc h;obtain⟨v,rfl⟩:∃v,cs=[v]:=by
   cases cs with
   |nil=>simp[Ty.n]at hc
   |cons a l=>cases l with
    |nil=>simp_all
    |cons _ _=>simp[Ty.n]at hc
  refine⟨v,F,[],rfl,h,by simp,fun w' S' v' y' oF x' hS sr hF ho hx=>⟨oF,by simp,?_⟩⟩;simp only[D5,AXC,Rh,ANB]at hx;simp_all
 | .bool,d,0,cs,x,F,t,y,h,e=>by
  simp only[BN,ANB,AOQ]at e;obtain⟨rfl,e⟩:=e;obtain rfl:=ASX e;have hc:=Yc h;obtain⟨v,rfl⟩:∃v,cs=[v]:=by
   cases cs with
   |nil=>simp[Ty.n]at hc
   |cons a l=>cases l with
    |nil=>simp_all
    |cons _ _=>simp[Ty.n]at hc
  refine⟨v,F,[],rfl,h,by simp,fun w' S' v' y' oF x' hS sr hF ho hx=>⟨oF,by simp,?_⟩⟩;simp only[D5,AXC,Rh,ANB]at hx;simp_all
 | .str,d,0,cs,x,F,t,y,h,e=>by
  simp only[BN,ANB,AOQ]at e;obtain⟨rfl,e⟩:=e;obtain rfl:=ASX e;have hc:=Yc h;obtain⟨v,rfl⟩:∃v,cs=[v]:=by
   cases cs with
   |nil=>simp[Ty.n]at hc
   |cons a l=>cases l with
    |nil=>simp_all
    |cons _ _=>simp[Ty.n]at hc
  refine⟨v,F,[],rfl,h,by simp,fun w' S' v' y' oF x' hS sr hF ho hx=>⟨oF,by simp,?_⟩⟩;simp only[D5,AXC,Rh,ANB]at hx;simp_all
 | .sl r,d,0,cs,x,F,t,y,h,e=>by
  simp only[BN,ANB,AOQ]at e;obtain⟨rfl,e⟩:=e;obtain rfl:=ASX e;have hc:=Yc h;obtain⟨v,rfl⟩:∃v,cs=[v]:=by
   cases cs with
   |nil=>simp[Ty.n]at hc
   |cons a l=>cases l with
    |nil=>simp_all
    |cons _ _=>simp[Ty.n]at hc
  refine⟨v,F,[],rfl,h,by simp,fun w' S' v' y' oF x' hS sr hF ho hx=>⟨oF,by simp,?_⟩⟩;simp only[D5,AXC,Rh,ANB]at hx;simp_all
 | .unit,_,_,_,_,_,_,_,_,e=>by simp[BN]at e
 | .int _,_,_+1,_,_,_,_,_,_,e=>by simp[BN]at e
 | .bool,_,_+1,_,_,_,_,_,_,e=>by simp[BN]at e
 | .str,_,_+1,_,_,_,_,_,_,e=>by simp[BN]at e
 | .sl _,_,_+1,_,_,_,_,_,_,e=>by simp[BN]at e
theorem lI{Fs:List ABG}{i:Nat}{G G':ABG}(h:Fs[i]? =some G):(Fs.set i G').flatten.Perm (G'++(Fs.set i []).flatten):=by
 have G4:=(ANF.1 h).1;have p1:=Vk (Fs:=Fs.set i G') (b:=i) (F:=G') (ASy (by omega));simp_all
theorem ug{w:World}{S:Nat→Prop}{d:Nat}{q:Ty}{a:Option Addr}{len cap:Nat}{ys:List q.D}{F:ABG}(h:Ow w S (d+1) (.sl q) [.slice a len cap] ys F){i:Nat}(hi:i<ys.length):
  ∃b o arr ty fr cs G R,a=some ⟨b,o,none⟩∧w.heap[b]? =some (.cells arr ty fr)∧vL fr arr.size∧o+i*q.n+q.n≤arr.size∧cs.length=q.n∧BX w b (o+i*q.n) cs∧
   Ow w S d q cs (rowAt q ys i) G∧F.Perm (G++(b::R))∧
   ∀(w':World) (S':Nat→Prop) (Kt:Array Value) (eD:List Value) (a8:q.D) (G':ABG),(∀c,S c→S' c)→(∀c,S c→w'.heap[c]? =w.heap[c]?)→(∀c∈R,w'.heap[c]? =w.heap[c]?)→
    w'.heap[b]? =some (.cells Kt ty fr)→Kt.size=arr.size→(∀k,(k<o+i*q.n∨o+i*q.n+q.n≤k)→Kt[k]? =arr[k]?)→eD.length=q.n→BX w' b (o+i*q.n) eD→
    Ow w' S' d q eD a8 G'→ ∃F',F'.Perm (G'++(b::R))∧Ow w' S' (d+1) (.sl q) [.slice a len cap] (ys.set i a8) F':=by
 simp only[Ow]at h;obtain⟨a',cap',e,hle,h⟩:=h;simp only[AR6,Value.slice.injEq,ASq]at e;obtain⟨rfl,rfl,rfl⟩:=e;rcases h with⟨h1,_⟩|⟨b,o,arr,ty,fr,Fs,rfl,hb,P5,hu,rfl,hFl,cc⟩
 ·omega
 ·have hG:Fs[i]? =some (Fs[i]'(by omega)):=AM4 _
  generalize Fs[i]'(by omega)=G at hG
  obtain⟨cs,c1,c2,c3⟩:=cc i _ G (RX hi) hG;have hbound:o+i*q.n+q.n≤arr.size:=by
   have:(i+1)*q.n≤cap*q.n:=APC _ (by omega);grind
  refine⟨b,o,arr,ty,fr,cs,G,(Fs.set i []).flatten,rfl,hb,fun i hi=>hu i (by omega),hbound,c1,c2,c3,?_,?_⟩
  ·refine(List.Perm.cons b (Vk hG)).trans ?_
   exact List.perm_middle.symm
  ·intro w' S' Kt eD a8 G' hS sr hR vU hs' hk Zi hca ho
   refine⟨b::(Fs.set i G').flatten,?_,?_⟩
   ·grind[List.Perm.cons,lI,trans]
   ·simp only[Ow]
    refine⟨_,cap,by simp,by simp_all,.inr ⟨b,o,Kt,ty,fr,Fs.set i G',rfl,vU,by omega,by simp_all,rfl,by simp_all,fun k y H hy hH=> ?_⟩⟩;by_cases e:k=i
    ·grind
    ·rw[ASc (by omega)]at hy
     rw[ASc (by omega)]at hH;obtain⟨ds,d1,d2,d3⟩:=cc k y H hy hH;refine⟨ds,d1,fun j v hj=> ?_,Eb hS sr (fun c hc=>hR c (ASb.2 ⟨H,APx (by grind:(Fs.set i [])[k]? =some H),hc⟩)) d3⟩;have xR:=(ANF.1 hj).1;have hold:=d2 j v hj;simp only[World.cell?,hb,ASu,ANw,AQS]at hold;simp only[World.cell?,vU,ASu,ANw,AQS];rw[hk,hold];rcases Nat.lt_or_gt_of_ne e with e|e
     ·left
      have:(k+1)*q.n≤i*q.n:=APC _ e;grind
     ·right
      have:(i+1)*q.n≤k*q.n:=APC _ e;grind
theorem qV{w:World}{S:Nat→Prop}:∀{p:List Xb} {d:Nat} {r:Ty} {h:Value} {rows:List r.D} {F:ABG} {q:Ty} {ys:List q.D},Ow w S d (.sl r) [h] rows F→DE r rows p→
  HE r rows p=some ⟨q,ys⟩→p.length<d→ ∃h' F1 F2,JH w h p=some h'∧Ow w S (d-p.length) (.sl q) [h'] ys F1∧F.Perm (F1++F2)∧
   ∀(w':World) (S':Nat→Prop) (vC:List q.D) (oF:ABG) (C0:List r.D),(∀c,S c→S' c)→(∀c,S c→w'.heap[c]? =w.heap[c]?)→(∀c∈F2,w'.heap[c]? =w.heap[c]?)→
    Ow w' S' (d-p.length) (.sl q) [h'] vC oF→qa r rows p q vC=some C0→ ∃F',F'.Perm (oF++F2)∧Ow w' S' d (.sl r) [h] C0 F'
 |[],d,r,h,rows,F,q,ys,ho,_,hg,_=>by
  simp only[HE,ANB,AOQ]at hg;obtain⟨rfl,e⟩:=hg;obtain rfl:=ASX e;refine⟨h,F,[],DA,ho,by simp,fun w' S' vC oF C0 _ _ _ xK hs=>⟨oF,by simp,?_⟩⟩;simp only[qa,AXC,Rh,ANB]at hs;simp_all
 |s::p,d,r,h,rows,F,q,ys,ho,hp,hg,hd=>by
  obtain⟨d,rfl⟩:∃n,d=n+1:=⟨d-1,by omega⟩;simp only[DE]at hp;obtain⟨hi,P5,hp⟩:=hp;simp only[HE]at hg;obtain⟨a,len,cap,rfl⟩:∃a len cap,h= .slice a len cap:=by
   have:=ho;simp only[Ow]at this;grind
  split at hg
  case h_2=>cases hg
  rename_i q' x' gp;rw[gp]at hp;obtain⟨b,o,arr,ty,fr,cs,G,R,rfl,hb,hu,hbd,c1,c2,c3,o_,hback⟩:=ug ho hi;obtain⟨v,A1,A2,k1,k2,k3,k4⟩:=ey c3 gp;obtain⟨h',F1,F2,m1,m2,m3,m4⟩:=qV k2 hp hg (by simp_all);have APr:d+1-(s::p).length=d-p.length:=by simp
  refine⟨h',F1,F2++A2++(b::R),?_,by simp_all,?_,?_⟩
  ·simp only[JH]
   rw[P5,c2 _ _ k1];omega
  ·grind
  ·intro w' S' vC oF C0 hS sr hF2 xK Va
   rw[APr]at xK;simp only[qa,gp]at Va;simp only[ANU,AND]at Va;obtain⟨x2,hx2,a8,hrow,rfl⟩:=Va;obtain⟨B1,p1,p2⟩:=m4 w' S' vC oF x2 hS sr (fun c hc=>hF2 c (by simp[hc])) xK hx2;obtain⟨B2,p3,p4⟩:=k4 w' S' v x2 B1 a8 hS sr (fun c hc=>hF2 c (by simp[hc])) p2 hrow;have AF4:cs.set s.j v=cs:=by
    apply AUY;grind
   rw[AF4]at p4;have hbb:=hF2 b (by simp);obtain⟨F',p5,p6⟩:=hback w' S' arr cs a8 B2 hS sr (fun c hc=>hF2 c (by simp[hc])) (hbb.trans hb) rfl (fun _ _=>rfl) c1 (c2.of_block hbb) p4;grind
end Go.Fw
end
section
namespace Go.Fw
def OR(E:Env)(w:World)(vw:List Bx):Option XV→Option Value→Prop
 |none,none=>True
 |some x,some v=>XR E w vw x v
 |_,_=>False
section
variable{Y:Type} {P:Program} {T:J8} (hT:Ei P T) {E:Env} {w:World} {vw:List Bx}
theorem run_sliceBound{κ:IntKind}{i:Int}{y:Nat}{code:BoundsCode}(h0:0≤i)(h1:i≤(y:Int)):(Instr.sliceBound (.int κ i) y code).run P w= .ok i.toNat w:=by
 simp[Instr.sliceBound,asIntOf,h0,h1]
theorem UW{len cap:Nat}(hc:len≤cap){lo hi:Option XV}{k:Nat→Nat→Option Y}{y:Y}(e:O_ len lo hi k=some y){lv hv:Option Value}
  (hl:OR E w vw lo lv) (hh:OR E w vw hi hv) (b:Bool):∃l h,k l h=some y∧l≤h∧h≤len∧(Instr.sliceBounds b len cap lv hv none).run P w= .ok (l,h,cap) w:=by
 unfold O_ at e;dsimp only at e;split at e
 case h_2=>cases e
 rename_i l h el eh;split at e
 case isFalse=>cases e
 rename_i hb;obtain⟨b1,b2,b3⟩:=hb;refine⟨l.toNat,h.toNat,e,by omega,by omega,?_⟩;cases hi with
 |none=>cases hv with
  |some _=>exact hh.elim
  |none=>
   simp only[ANB]at eh;subst eh;cases lo with
   |none=>cases lv with
    |some _=>exact hl.elim
    |none=>
     simp only[ANB]at el;subst el;rfl
   |some x=>cases lv with
    |none=>exact hl.elim
    |some v=>
     obtain⟨κ,rfl⟩:=I1 (E:=E) (w:=w) (vw:=vw) el hl;simp[Instr.sliceBounds,run_sliceBound (P:=P) (w:=w) (κ:=κ) (i:=l) (y:=len) b1 (by omega)]
 |some x=>cases hv with
  |none=>exact hh.elim
  |some v=>
   obtain⟨κ,rfl⟩:=I1 (E:=E) (w:=w) (vw:=vw) eh hh;have e1:=fun code=>run_sliceBound (P:=P) (w:=w) (κ:=κ) (i:=h) (y:=cap) (code:=code) (by omega) (by omega)
   cases lo with
   |none=>cases lv with
    |some _=>exact hl.elim
    |none=>
     simp only[ANB]at el;subst el;simp[Instr.sliceBounds,e1]
   |some x=>cases lv with
    |none=>exact hl.elim
    |some v=>
     obtain⟨κ',rfl⟩:=I1 (E:=E) (w:=w) (vw:=vw) el hl;have e2:=fun code=>run_sliceBound (P:=P) (w:=w) (κ:=κ') (i:=l) (y:=h.toNat) (code:=code) b1 (by omega)
     simp[Instr.sliceBounds,e1,e2]
theorem rP(s:AB_)(l h:Nat):(⟨s.toArray⟩:ByteArray).extract l h=⟨((s.drop l).take (h-l)).toArray⟩:=by
 apply ByteArray.ext;simp[List.extract_eq_take_drop]
include hT
theorem kD{σ:St}{Fs:List ABG}(hB:N9 E w σ.bx σ.bx Fs)(st:∀c,E.S c→E.T c){t:Nat}{x:XV}{lo hi:Option XV}{k:K Y}{y:Y}(e:lW T t σ x lo hi k=some y)
  {v:Value} {lv hv:Option Value} (hx:XR E w σ.bx x v) (hl:OR E w σ.bx lo lv) (hh:OR E w σ.bx hi hv):
  ∃z val,k z σ=some y∧(Instr.sliceAt t v lv hv none).run P w= .ok val w∧XR E w σ.bx z val:=by
 unfold lW at e;split at e
 ·rename_i s
  split at e
  case isFalse=>cases e
  rename_i rA;have hu:=Xu hT rA;have ZL:=YA (E:=E) (w:=w) (vw:=σ.bx) hx;subst ZL;obtain⟨l,h,ek,h1,h2,hr⟩:=UW (P:=P) (cap:=s.length) (AQQ _) e hl hh false;refine⟨_,.string ⟨((s.drop l).take (h-l)).toArray⟩,ek,?_,VR.str (E:=E) (vw:=σ.bx) _⟩;have hs:(⟨s.toArray⟩:ByteArray).size=s.length:=by rfl
  simp[Instr.sliceAt,BV hu,Instr.slice,hs,hr,rP]
 ·rename_i s r rows
  split at e
  case isFalse=>cases e
  rename_i Vb;obtain⟨el,ti,hu,Vr,hs,_⟩:=K7 hT Vb;have P5:=Ei.sizeOf hT Vr w
  change VR E w σ.bx (.sl s r rows) v at hx
  have hx':=hx;simp only[VR,Rd]at hx';obtain⟨a,cap,ZL,hle,_⟩:=hx';simp only[AR6,ASq]at ZL;subst ZL;obtain⟨l,h,ek,h1,h2,hr⟩:=UW (P:=P) hle e hl hh true;refine⟨_,WH r.n l (h-l) a cap,ek,?_,?_⟩
  ·simp[Instr.sliceAt,BV hu,Instr.slice,hr,P5,hs,WH]
  grind[XR,VR,yk]
 ·rename_i b p
  split at e
  case h_2=>cases e
  rename_i q hq;split at e
  case isFalse=>cases e
  rename_i Vb;obtain⟨el,ti,hu,Vr,hs,_⟩:=K7 hT Vb;have P5:=Ei.sizeOf hT Vr w
  change VR E w σ.bx (.ref b p) v at hx
  obtain⟨a,cap,rfl,hle,_⟩:=yF hB st hx hq;obtain⟨l,h,ek,h1,h2,hr⟩:=UW (P:=P) hle e hl hh true;refine⟨_,WH q.1.n l (h-l) a cap,ek,?_,?_⟩
  ·simp[Instr.sliceAt,BV hu,Instr.slice,hr,P5,hs,WH]
  ·simp only[N5]at hq
   obtain⟨_,hx⟩:=hx;refine⟨by rfl,?_⟩;grind
 simp_all
omit hT in
theorem cJ{f:Nat→Option AV}:∀{n j:Nat} {l:List AV},d_ f j n=some l→l.length=n∧ ∀(i:Nat) x,l[i]? =some x→f (j+i)=some x
 |0,j,l,e=>by simp only[d_,ANB]at e;subst e;simp
 |n+1,j,l,e=>by
  simp only[d_,ANU,AND]at e;obtain⟨x,hx,l',hl,rfl⟩:=e;obtain⟨h1,h2⟩:=cJ hl;refine⟨by simp[h1],fun i z hz=> ?_⟩;cases i with
  |zero=>simp at hz;subst hz;exact hx
  |succ i=>
   have:=h2 i z (by simpa using hz)
   rwa [show j+1+i=j+(i+1)by omega]at this
omit hT in
theorem Xd{B:Nat→Prop}{t:Ty}{x:t.D}{v:Value}(h:Rd w B t [v] x)(hs:t.scalar=true):VR E w vw (.v t x) v:=by
 refine⟨hs,?_⟩;cases t<;>first
  |(simpa only[Rd]using h)
  |(simp[Ty.scalar]at hs)
omit hT in
theorem ABf{s:Bool}{t:Ty}{x:t.D}{v:Value}(h:Rd w (if s then E.S else E.T) t [v] x):VR E w vw (yS s ⟨t,x⟩) v:=by
 cases t with
 |sl r=>simp only[yS,VR];exact h
 |int k=>exact Xd h rfl
 |bool=>exact Xd h rfl
 |str=>exact Xd h rfl
 |unit=>trivial
 |cons c r=>trivial
omit hT in
theorem mB{s:Xb}:∀{p:List Xb} {r:Ty} {rows:List r.D} {q:Ty} {ys:List q.D} {t:Ty} {x:List t.D},DE r rows p→HE r rows p=some ⟨q,ys⟩→s.i<ys.length→s.sz=q.n→
  BN q s.j (rowAt q ys s.i)=some ⟨.sl t,x⟩→DE r rows (p++[s])∧HE r rows (p++[s])=some ⟨t,x⟩
 |[],r,rows,q,ys,t,x,_,hg,hi,hs,hc=>by
  simp only[HE,ANB,AOQ]at hg;obtain⟨rfl,e⟩:=hg;obtain rfl:=ASX e;refine⟨?_,?_⟩
  ·simp only[ARU,DE,hc]
   exact⟨hi,hs,trivial⟩
  ·simp only[ARU,HE,hc]
 |s'::p,r,rows,q,ys,t,x,hp,hg,hi,hs,hc=>by
  simp only[DE]at hp;obtain⟨h1,h2,hp⟩:=hp;simp only[HE]at hg;split at hg
  ·rename_i q' x' gp
   rw[gp]at hp;obtain⟨a,b⟩:=mB hp hg hi hs hc;refine⟨?_,?_⟩
   ·simp only[AS0,DE,gp]
    exact⟨h1,h2,a⟩
   ·simp only[AS0,HE,gp]
    exact b
  ·cases hg
omit hT in
theorem qg{s:Xb}:∀{p:List Xb} {h:Value} {b o len cap:Nat} {v:Value},JH w h p=some (.slice (some ⟨b,o,none⟩) len cap)→w.cell? ⟨b,o+s.i*s.sz+s.j,none⟩=some v→
  JH w h (p++[s])=some v
 |[],h,b,o,len,cap,v,e,hc=>by
  rw[DA]at e;cases e;simp[JH,hc,DA]
 |s'::p,h,b,o,len,cap,v,e,hc=>by
  cases h with
  |slice a l c=>
   cases a with
   |none=>simp[JH]at e
   |some a=>
    simp only[JH]at e;split at e
    ·rename_i h' hh
     simp only[AS0,JH,hh];exact qg e hc
    ·cases e
  |_=>simp[JH]at e
omit hT in
theorem L_{bx:List Bx}{Fs:List ABG}(hB:N9 E w bx bx Fs)(st:∀c,E.S c→E.T c){x z:AV}{i:Nat}(e:Je bx x i=some z){v:Value}(hx:VR E w bx x v):
  ∃b o u,v= .pointer (some ⟨b,o,none⟩)∧w.cell? ⟨b,o+i,none⟩=some u∧VR E w bx z u:=by
 cases x with
 |Ik b j=>
  simp only[Je]at e;split at e
  ·rename_i cs hb
   obtain⟨F,⟨_,arr,ty,fr,ha,hu,hv⟩,_⟩:=hB.get hb;obtain⟨u,h1,h2⟩:=CW.get hv e;refine⟨_,_,u,hx.2,?_,h2⟩;simp only[World.cell?,ha,ASu,ANw,AQS];simpa using h1
  ·cases e
 |Jn b p r sz j=>
  simp only[Je]at e;split at e
  ·rename_i d q rows hb
   split at e
   case isFalse=>cases e
   rename_i hd;simp only[ANU]at e;obtain⟨⟨q',vC⟩,hg,e⟩:=e;split at e
   case isFalse=>cases e
   rename_i P5;simp only[AND]at e;obtain⟨⟨t,y⟩,hc,rfl⟩:=e;simp only[VR,hb]at hx;obtain⟨_,hp,q1,ys,bb,o,len,cap,g1,g2,g3,rfl⟩:=hx;rw[hg]at g1;simp only[ANB,AOQ]at g1;obtain⟨rfl,g1⟩:=g1;obtain rfl:=ASX g1;dsimp only at P5 hc;obtain⟨F,⟨hd1,ho⟩,hF⟩:=hB.get hb;have ZN:=eV (FP.refl bx) hB st hb hp hg g3;have AdL:=ZN;simp only[Rd]at ZN;obtain⟨a',cap',ee,hle,ZN⟩:=ZN;simp only[AR6,Value.slice.injEq,ASq]at ee;obtain⟨rfl,rfl,rfl⟩:=ee;rcases ZN with ZN|⟨b1,o1,e7,_,ZN⟩
   ·omega
   ·cases e7
    obtain⟨cs,c1,c2,c3⟩:=ZN r _ (RX g2);obtain⟨u,hu,hur⟩:=fB c3 hc;have bN:=c2 _ _ hu;rw[←P5]at bN;refine⟨_,_,u,rfl,by rw[ATC];exact bN,?_⟩;cases t with
    |sl t' =>
     simp only[AAX];split
     ·rename_i hdd
      obtain⟨h',F1,F2,m1,m2,_,_⟩:=qV ho hp hg hd;rw[g3]at m1;cases m1;rw[show d-p.length=0+1 by omega]at m2;obtain⟨b2,o2,arr,ty,fr,cs2,G,R,e2,_,_,_,_,k2,k3,_,_⟩:=ug m2 g2;cases e2;obtain⟨v2,A1,A2,z1,z2,_,_⟩:=ey k3 hc;have AEi:=k2 _ _ z1;rw[←P5,bN]at AEi;cases AEi;simp only[Ow]at z2;simp only[VR];exact z2.1
     ·simp only[VR,hb]
      have:=mB (s:=⟨r,sz,j+i⟩) hp hg g2 P5 hc;simp only[Rd]at hur;obtain⟨a2,cap2,e2,_⟩:=hur;simp only[AR6,ASq]at e2;refine⟨by rw[e2];rfl,this.1,⟨_,this.2⟩,qg g3 bN⟩
    |int k=>exact Xd hur rfl
    |bool=>exact Xd hur rfl
    |str=>exact Xd hur rfl
    |unit=>trivial
    |cons c r=>trivial
  ·cases e
 |P4 s r y j=>
  simp only[Je,AND]at e;obtain⟨⟨t,y'⟩,hc,rfl⟩:=e;obtain⟨bb,o,cs,rfl,h2,h3,h4,h5⟩:=hx;obtain⟨u,hu,hur⟩:=fB h5 hc;refine⟨_,_,u,rfl,by rw[ATC];exact h4 _ _ hu,ABf hur⟩
 |_=>simp[Je]at e
omit hT in
theorem ef{bx:List Bx}{Fs:List ABG}(hB:N9 E w bx bx Fs)(st:∀c,E.S c→E.T c){x:AV}{v:Value}(hx:VR E w bx x v){b o:Nat}(hv:v= .pointer (some ⟨b,o,none⟩)):
  ∀{l:List AV} {j:Nat},(∀(i:Nat) z,l[i]? =some z→Je bx x (j+i)=some z)→ ∃cs:List Value,cs.length=l.length∧BX w b (o+j) cs∧jj E w bx l cs
 |[],_,_=>⟨[],rfl,fun _ _ h=>by simp at h,trivial⟩
 |z::l,j,h=>by
  obtain⟨b',o',u,e1,e2,e3⟩:=L_ hB st (h 0 z rfl) hx;subst hv;simp only[Value.pointer.injEq,ANB,Addr.mk.injEq,ASq]at e1;obtain⟨rfl,rfl⟩:=e1;obtain⟨cs,c1,c2,c3⟩:=ef hB st hx rfl (l:=l) (j:=j+1) (fun i y hy=>by
   have:=h (i+1) y (by simpa using hy)
   rwa [show j+1+i=j+(i+1)by omega])
  refine⟨u::cs,by simp[c1],fun i y hy=> ?_,e3,c3⟩;cases i with
  |zero=>simp at hy;subst hy;exact e2
  |succ i=>
   have:=c2 i y (by simpa using hy)
   rwa [show o+(j+1)+i=o+j+(i+1)by omega]at this
theorem wk{σ:St}{Fs:List ABG}(hB:N9 E w σ.bx σ.bx Fs)(st:∀c,E.S c→E.T c){t:Nat}{x z:XV}(e:mL T t σ x=some z){v:Value}(hx:XR E w σ.bx x v):
  ∃u,(Instr.loadAt t v).run P w= .ok u w∧XR E w σ.bx z u:=by
 unfold mL at e;split at e
 case h_2=>cases e
 rename_i x ti Vr;split at e
 case isTrue=>cases e
 rename_i P5;have jG:=Ei.isAgg hT Vr w;split at e
 ·rename_i ha
  rw[ha]at jG;simp only[AND]at e;obtain⟨l,hl,rfl⟩:=e;obtain⟨h1,h2⟩:=cJ hl;have h0:0<l.length:=by omega
  obtain⟨b,o,u,hv,_,_⟩:=L_ hB st (h2 0 _ (AM4 h0)) hx;obtain⟨cs,c1,c2,c3⟩:=ef hB st hx hv (l:=l) (j:=0) (fun i y hy=>by simp_all);subst hv;have jX:=(hT t ti Vr).und;cases hd:ti.desc with
  |st fs=>
   rw[hd]at jX;obtain⟨fields,hu,_⟩:=jX;refine⟨.agg cs.toArray,run_loadAt_mid w b o t cs _ (by grind[BX,World.rangeAt]) hu rfl ?_,cs.toArray,rfl,by omega⟩;grind[Ei.size]
  |_=>grind[TD.agg]
 ·rename_i ha
  simp only[AQV]at ha;rw[ha]at jG;simp only[AND]at e;obtain⟨y,hy,rfl⟩:=e;obtain⟨b,o,u,hv,hc,hr⟩:=L_ hB st hy hx;subst hv;refine⟨u,?_,hr⟩;simp only[ATG]at hc;simp[Instr.loadAt,Instr.sureAddr,loadVar,jG,hc]
end
end Go.Fw
end
section
namespace Go.Fw
theorem oH{w:World}{S:Nat→Prop}{d:Nat}{q:Ty}:Ow w S d (.sl q) [.slice none 0 0] [] []:=by
 cases d with
 |zero=>simp only[Ow,Rd];simp_all
 |succ d=>simp only[Ow];simp_all
theorem AC3{w:World}{S:Nat→Prop}{d:Nat}{r:Ty}{a:Option Addr}{len cap:Nat}{ys:List r.D}{F:ABG}(h:Ow w S (d+1) (.sl r) [.slice a len cap] ys F){off n:Nat}(hn:off+n≤ys.length):
  ∃F1 F2,F.Perm (F1++F2)∧Ow w S (d+1) (.sl r) [WH r.n off n a cap] ((ys.drop off).take n) F1:=by
 simp only[Ow]at h⊢;obtain⟨a',cap',e,hc,h⟩:=h;simp only[AR6,Value.slice.injEq,ASq]at e;obtain⟨rfl,rfl,rfl⟩:=e;have hl:((ys.drop off).take n).length=n:=by grind
 by_cases h0:cap=off
 ·subst h0
  refine⟨[],F,by simp,a,0,by simp[WH,hl],by omega,.inl ⟨rfl,rfl⟩⟩
 ·rcases h with⟨h,rfl⟩|⟨b,o,arr,ty,fr,Fs,rfl,hb,P5,hu,rfl,hFl,hr⟩
  ·omega
  ·have p:Fs.flatten.Perm (((Fs.drop off).take n).flatten++((Fs.take off).flatten++(Fs.drop (off+n)).flatten)):=by
    grind[List.drop_drop,List.take_append_drop,List.flatten_append,List.append_assoc,List.Perm.append_right,List.perm_append_comm]
   refine⟨b::((Fs.drop off).take n).flatten,(Fs.take off).flatten++(Fs.drop (off+n)).flatten,List.Perm.cons b p,some ⟨b,o+off*r.n,none⟩,cap-off,?_,by omega,.inr ⟨b,o+off*r.n,arr,ty,fr,_,rfl,hb,?_,hu,rfl,?_,?_⟩⟩
   ·grind[WH,Addr.add_eq]
   ·have:off*r.n+(cap-off)*r.n=cap*r.n:=by rw[←ASz];grind
    omega
   all_goals grind
theorem Le.keep{E E':Env}(h:Le E E'){w:World}{vw:List Bx}(st:∀c,E.S c→E.T c):Tg E w vw E' w vw:=
 ⟨AQQ _,fun b _=>by rw[h.IE],h.T,h.S,st,fun _ _=>rfl,fun b d r rows _ e=>⟨d,rows,e,fun p hp q ys hg=>⟨hp,⟨ys,hg,rfl⟩,fun h' hh=>by rw[h.IF];omega⟩⟩⟩
theorem C8.share{E:Env}{w:World}{vw bx:List Bx}{F W G:ABG}(h:C8 E w vw bx (F++W++G)):
  let E':Env:={ E with S:=fun c=>E.S c∨c∈W,T:=fun c=>E.T c∨c∈W }
  Le E E'∧C8 E' w vw bx (F++G):=by
 intro E';have st:=h.st;have hle:Le E E':=⟨rfl,rfl,fun c hc=> .inl hc,fun c hc=> .inl hc,fun c hc=>hc.elim .inl fun h' => .inr (.inr h'),fun c hc=>hc.elim .inl fun h' => .inr (h.AFI c (by simp[h']))⟩;refine⟨hle,?_⟩;obtain⟨Fs,⟨h1,h2⟩,h3⟩:=h;refine⟨Fs,⟨h1,fun k B F' hk hF=> ?_⟩,?_⟩
 ·have:=h2 k B F' hk hF
  cases B with
  |mem cs=>
   obtain⟨rfl,arr,ty,fr,a1,a2,a3⟩:=this;exact⟨rfl,arr,ty,fr,a1,a2,a3.imp fun _ _ hv=>GS (hle.keep st) hv⟩
  |sl d r rows=>exact⟨this.1,Eb hle.S (fun _ _=>rfl) (fun _ _=>rfl) this.2⟩
  |dead=>exact this
 ·have h4:Sep E w (W++(Fs.flatten++(F++G))):=h3.perm (by
   grind)
  refine⟨(AOj.1 h4.nodup).2.1,fun c hc ht=> ?_,fun c hc=>h4.lt c (by simp_all),fun c hc=>hc.imp (st c) id,fun c hc=>hc.elim (h4.dV c) fun h' =>h4.lt c (by simp[h'])⟩;rcases ht with ht|ht
  ·exact h4.free c (AOk.2 (.inr hc)) ht
  ·exact(AOj.1 h4.nodup).2.2 c ht c hc rfl
structure HJ (E:Env) (w:World) (vw bx:List Bx) (G:ABG) (E':Env) (RI:List Bx) (F:ABG):Prop where
 le:Le E E'
 len:RI.length=bx.length
 within:∀(b:Nat) (B:Bx),RI[b]? =some B→B= .dead∨bx[b]? =some B
 boxes:C8 E' w vw RI (F++G)
theorem HJ.refl{E:Env}{w:World}{vw bx:List Bx}{G:ABG}(h:C8 E w vw bx G):HJ E w vw bx G E bx []:=
 ⟨Le.refl E,rfl,fun _ _ h=> .inr h,h⟩
theorem FP.oc{E E':Env}{w:World}{vw bx RI:List Bx}{G F:ABG}(h:FP bx vw)(k:HJ E w vw bx G E' RI F):FP RI vw:=fun b B e=>
 (k.within b B e).elim .inl (h b B)
theorem bo{E:Env}{w:World}{vw bx:List Bx}{G:ABG}(h:C8 E w vw bx G)(hw:FP bx vw){d:Nat}(hd:1≤d){t:Ty}{x:AV}{v:Value}(hv:VR E w vw x v){y:t.D}{RI:List Bx}{d':Nat}
  (e:eG d t x bx=some (y,RI,d')):1≤d'∧d'≤d∧ ∃E' F,HJ E w vw bx G E' RI F∧Ow w E'.S (d'-1) t [v] y F:=by
 unfold eG at e;split at e
 ·rename_i u z
  simp only[AND,ASM]at e;obtain⟨z',e1,rfl,rfl,rfl⟩:=e;obtain⟨e2,e3⟩:=IM e1;subst e2;subst e3;refine⟨hd,AQQ _,E,[],HJ.refl h,?_⟩;obtain⟨hs,hr⟩:=hv;cases u<;>simp_all[Ty.scalar,Ow,Rd]
 ·split at e
  ·simp only[ANB,ASM]at e
   obtain⟨rfl,rfl,rfl⟩:=e;simp only[VR]at hv;subst hv;exact⟨hd,AQQ _,E,[],HJ.refl h,oH⟩
  simp_all
 ·rename_i r z
  split at e
  ·rename_i q
   simp only[AND,ASM]at e;obtain⟨z',e1,rfl,rfl,rfl⟩:=e;obtain⟨e2,e3⟩:=IM e1;subst e2;subst e3;refine⟨AQQ _,hd,E,[],HJ.refl h,?_⟩;simp only[VR]at hv;simp only[AXR,Ow];simp_all
  simp_all
 ·rename_i b
  split at e
  case h_2=>cases e
  rename_i q;split at e
  case h_2=>cases e
  rename_i db r z hb;simp only[AND,ASM]at e;obtain⟨z',e1,rfl,rfl,rfl⟩:=e;obtain⟨e2,e3⟩:=IM e1;subst e2;subst e3;obtain⟨F0,⟨hd1,ho⟩,hB⟩:=h.take hb;have hvv:v=E.IF b:=by
   grind[VR,ZX,DA]
  subst hvv;obtain⟨F1,W,hp,xK⟩:=KY (d:=min d (db+1)-1) (by omega) ho;have UA:=hB.perm (ATl G hp);obtain⟨hle,Yl⟩:=UA.share;refine⟨by omega,Nat.min_le_left _ _,_,F1,⟨hle,by simp,fun k B hk=> ?_,Yl⟩,xK⟩;grind
 ·rename_i b off n
  split at e
  case h_2=>cases e
  rename_i q;split at e
  case h_2=>cases e
  rename_i db r z hb;simp only[AND,ASM]at e;obtain⟨z',e1,rfl,rfl,rfl⟩:=e;obtain⟨e2,e3⟩:=IM e1;subst e2;subst e3;obtain⟨F0,⟨hd1,ho⟩,hB⟩:=h.take hb;simp only[VR,ZX hw hb,DA]at hv;obtain⟨_,_,q',ys,a,len,cap,hg,hn,hh,rfl⟩:=hv;simp only[HE,ANB,AOQ]at hg;obtain⟨rfl,hg⟩:=hg;obtain rfl:=ASX hg;simp only[ANB]at hh;rw[hh]at ho;obtain⟨db,rfl⟩:∃m,db=m+1:=⟨db-1,by omega⟩;obtain⟨A1,A2,hp0,ho0⟩:=AC3 ho hn;obtain⟨F1,W,hp,xK⟩:=KY (d:=min d (db+1+1)-1) (by omega) ho0;have hB1:C8 E w vw (bx.set b .dead) (A1++G):=by
   refine C8.drop (G':=A2) (hB.perm ?_);grind
  have UA:=hB1.perm (ATl G hp);obtain⟨hle,Yl⟩:=UA.share;refine⟨by omega,Nat.min_le_left _ _,_,F1,⟨hle,by simp,fun k B hk=> ?_,Yl⟩,xK⟩;grind
 simp_all
theorem Z2{w:World}{vw:List Bx}:∀{r:Ty} {E:Env} {bx:List Bx} {G:ABG} {d:Nat} {l:List AV} {vs:List Value} {y:r.D} {RI:List Bx} {d':Nat},C8 E w vw bx G→FP bx vw→1≤d→
  jj E w vw l vs→cellsIn d r l bx=some (y,RI,d')→1≤d'∧d'≤d∧ ∃E' F,HJ E w vw bx G E' RI F∧Ow w E'.S (d'-1) r vs y F
 | .unit,E,bx,G,d,[],[],y,RI,d',h,hw,hd,_,e=>by
  simp only[cellsIn,ANB,ASM]at e;obtain⟨_,rfl,rfl⟩:=e;exact⟨hd,AQQ _,E,[],HJ.refl h,by simp only[Ow];simp_all⟩
 | .cons c r,E,bx,G,d,x::l,v::vs,y,RI,d',h,hw,hd,hv,e=>by
  simp only[cellsIn,ANU,AND,ASM]at e;obtain⟨⟨y1,kG,d1⟩,e1,⟨y2,bO,d2⟩,e2,rfl,rfl,rfl⟩:=e;dsimp only at e2⊢;obtain⟨a1,a2,E1,F1,k1,o1⟩:=bo h hw hd hv.1 e1;have vk:=k1.le.keep (w:=w) (vw:=vw) h.st;obtain⟨b1,b2,E2,F2,k2,o2⟩:=Z2 (G:=F1++G) k1.boxes (hw.oc k1) a1 (hv.2.imp fun _ _ h=>GS vk h) e2;obtain⟨A,W,hp,o1'⟩:=KY (d:=d'-1) (by omega) o1;have hB:=k2.boxes.perm (G':=(F2++A)++W++G) (by
   grind)
  obtain⟨hle,Yl⟩:=hB.share;refine⟨b1,ASY b2 a2,_,A++F2,⟨(k1.le.trans k2.le).trans hle,k2.len.trans k1.len,fun b B hb=>(k2.within b B hb).elim .inl (k1.within b B),Yl.perm (ATl _ List.perm_append_comm)⟩,?_⟩;simp only[Ow];refine⟨v,vs,A,F2,rfl,rfl,?_,?_⟩
  ·refine Eb (S:=fun b=>E1.S b∨b∈W) ?_ (fun _ _=>rfl) (fun _ _=>rfl) o1'
   intro c hc;exact hc.elim (fun h=> .inl (k2.le.S c h)) .inr
  ·refine Eb (S:=E2.S) ?_ (fun _ _=>rfl) (fun _ _=>rfl) o2
   simp_all
 | .unit,_,_,_,_,_::_,_,_,_,_,_,_,_,_,e=>by simp[cellsIn]at e
 | .unit,_,_,_,_,[],_::_,_,_,_,_,_,_,hv,_=>hv.elim
 | .cons _ _,_,_,_,_,[],_,_,_,_,_,_,_,_,e=>by simp[cellsIn]at e
 | .cons _ _,_,_,_,_,_::_,[],_,_,_,_,_,_,hv,_=>hv.elim
 | .int _,_,_,_,_,_,_,_,_,_,_,_,_,_,e=>by simp[cellsIn]at e
 | .bool,_,_,_,_,_,_,_,_,_,_,_,_,_,e=>by simp[cellsIn]at e
 | .str,_,_,_,_,_,_,_,_,_,_,_,_,_,e=>by simp[cellsIn]at e
 | .sl _,_,_,_,_,_,_,_,_,_,_,_,_,_,e=>by simp[cellsIn]at e
theorem uy{E:Env}{w:World}{vw:List Bx}{x:AV}{v:Value}(h:VR E w vw x v)(hk:x.known=true):v.oneCell' =true∧v.cells= #[v]:=by
 have aux:∀{v:Value},isSlice v=true→v.oneCell' =true∧v.cells= #[v]:=by intro v h;cases v<;>simp_all[isSlice,Value.oneCell',Value.cells]
 have AYq:∀{v:Value},cy v=true→v.oneCell' =true∧v.cells= #[v]:=by intro v h;cases v<;>simp_all[cy,Value.oneCell',Value.cells]
 cases x with
 |v t y=>
  obtain⟨hs,hr⟩:=h;cases t<;>simp[Ty.scalar]at hs<;>simp only[Rd,AR6,ASq]at hr<;>subst hr<;>exact⟨rfl,rfl⟩
 |sl s r y=>
  simp only[VR,Rd]at h;obtain⟨a,cap,h,_⟩:=h;simp only[AR6,ASq]at h;subst h;exact⟨rfl,rfl⟩
 |nil=>simp only[VR]at h;subst h;exact⟨rfl,rfl⟩
 |ref b p=>exact aux h.1
 |win b p off n=>exact aux h.1
 |Ik b j=>rw[h.2];exact⟨rfl,rfl⟩
 |Jn b p i sz j=>exact AYq h.1
 |P4 s r y j=>obtain⟨bb,o,cs,rfl,_⟩:=h;exact⟨rfl,rfl⟩
 |fn f Ky=>rw[h.2];exact⟨rfl,rfl⟩
 |q7 f rows=>obtain⟨ps,rfl,_⟩:=h;exact⟨rfl,rfl⟩
 |xd=>simp only[VR]at h;subst h;exact⟨rfl,rfl⟩
 |undef=>simp[AV.known]at hk
theorem zb{E:Env}{w:World}{vw:List Bx}:∀{l:List AV} {vs:List Value},jj E w vw l vs→l.all AV.known=true→ ∀v∈vs,v.oneCell' =true
 |[],[],_,_=>by simp
 |x::l,v::vs,h,hk=>by
  simp only[AS4,ANN]at hk;intro u hu;rcases ARi.1 hu with rfl|hu
  ·exact(uy h.1 hk.1).1
  ·exact zb h.2 hk.2 u hu
theorem pR{E:Env}{w:World}{vw:List Bx}{x:XV}{v:Value}(h:XR E w vw x v)(hk:x.cells.all AV.known=true)(hn:x.cells≠[]):jj E w vw x.cells v.cells.toList∧ ∀u∈v.cells.toList,u.oneCell' =true:=by
 cases x with
 |c x=>
  have h':VR E w vw x v:=h;obtain⟨h1,h2⟩:=uy h' (by grind[XV.cells]);rw[h2];exact⟨⟨h',trivial⟩,by simp_all⟩
 |agg l=>
  obtain⟨vs,rfl,Wl⟩:=h;exact⟨Wl,zb Wl hk⟩
 |M3 l=>simp[XV.cells]at hn
theorem wA{w:World}{vw:List Bx}{r:Ty}{E:Env}{bx:List Bx}{G:ABG}{d:Nat}{x:XV}{v:Value}{y:r.D}{RI:List Bx}{d':Nat}(h:C8 E w vw bx G)(hw:FP bx vw)(hd:1≤d)
  (hv:XR E w vw x v) (e:AFT d r x bx=some (y,RI,d')):1≤d'∧d'≤d∧ ∃E' F,HJ E w vw bx G E' RI F∧Ow w E'.S (d'-1) r v.cells.toList y F:=by
 unfold AFT at e;split at e
 ·rename_i l
  obtain⟨vs,rfl,Wl⟩:=hv;exact Z2 h hw hd Wl e
 ·rename_i x
  have ZL:VR E w vw x v:=hv;have hk:x.known=true:=by grind[AV.known,eG]
  rw[(uy ZL hk).2];exact bo h hw hd ZL e
 simp_all
end Go.Fw
end
section
namespace Go.Fw
def Env.bY(E:Env)(n:Nat)(h:Value):Env:={ E with IF:=fun k=>if k=n then h else E.IF k }
def Env.ew(E:Env)(n b:Nat):Env:={ E with IE:=fun k=>if k=n then b else E.IE k }
theorem gQ{E E1 E':Env}{w w':World}{vw kG RI:List Bx}{F:ABG}(k:HJ E w vw vw [] E1 kG F)(st:∀c,E.S c→E.T c)(hlen:vw.length≤RI.length)
  (vF:∀b B,b<vw.length→RI[b]? =some B→kG[b]? =some B) (AE3:∀b,b<vw.length→E'.IE b=E1.IE b) (nL:∀b,b<vw.length→E'.IF b=E1.IF b) (hT:E'.T=E1.T) (hS:E'.S=E1.S)
  (hw:∀c,c<w.heap.size→c∉F→w'.heap[c]? =w.heap[c]?):Tg E w vw E' w' RI:=by
 have hB:=k.boxes;obtain⟨Fs,⟨h1,h2⟩,h3⟩:=hB;simp only[AOC]at h3;have xN:∀c,E1.T c→w'.heap[c]? =w.heap[c]?:=fun c hc=>hw c (h3.dV c hc) fun hf=>h3.free c (by simp[hf]) hc
 refine⟨hlen,fun b hb=>by rw[AE3 b hb,k.le.IE],fun c hc=>by rw[hT];exact k.le.T c hc,fun c hc=>by rw[hS];exact k.le.S c hc,st,fun c hc=>xN c (k.le.T c hc),fun b d r rows hb e=> ?_⟩;have e1:=vF b _ hb e;rcases k.within b _ e1 with e2|e2
 ·cases e2
 ·refine⟨d,rows,e2,fun p hp q ys hg=>⟨hp,⟨ys,hg,rfl⟩,fun h' hh=> ?_⟩⟩
  have hF:Fs[b]? =some (Fs[b]'(by grind)):=AM4 _;obtain⟨hd,ho⟩:=h2 b _ _ e1 hF;rw[nL b hb];rw[←k.le.IF]at hh;refine tq ho (fun c hc=>xN c (h3.st c hc)) (fun c hc=> ?_) hp hg hh;have Te:c∈Fs.flatten:=ASb.2 ⟨_,APx hF,hc⟩;exact hw c (h3.lt c (by simp[Te])) fun hf=>(AOj.1 h3.nodup).2.2 c Te c hf rfl
structure Grown (w w':World):Prop where
 os:w'.os=w.os
 tape:w'.tape=w.tape
 output:w'.output=w.output
 size:w.heap.size≤w'.heap.size
theorem UZ{E E1:Env}{σ:St}{a:Act}{w w':World}{kG:List Bx}{F F':ABG}(h:Rel E σ a w)(k:HJ E w σ.bx σ.bx [] E1 kG F){v:Value}{d:Nat}{r:Ty}{rows:List r.D}(hd:1≤d)
  (ho:Ow w' E1.S d (.sl r) [v] rows F') (hF':∀c∈F',c∈F∨w.heap.size≤c) (nd:F'.Nodup) (G4:∀c∈F',c<w'.heap.size) (hw:∀c,c<w.heap.size→c∉F→w'.heap[c]? =w.heap[c]?) (g:Grown w w'):
  let E':=E1.bY kG.length v
  Rel E' { σ with bx:=kG++[.sl d r rows] } a w'∧SD [] E σ.bx w E' (kG++[.sl d r rows]) w'∧XR E' w' (kG++[.sl d r rows]) (.c (.ref kG.length [])) v:=by
 intro E';have st:=h.bx.st;have hn:=k.len;have keep:Tg E w σ.bx E' w' (kG++[.sl d r rows]):=gQ k st (by simp[hn]) (fun b B hb e=>by
   grind) (fun b _=>rfl) (fun b hb=>by grind[Env.bY]) rfl rfl hw
 have vk:Tg E1 w σ.bx E' w' (kG++[.sl d r rows]):=by
  have k':HJ E1 w σ.bx σ.bx [] E1 kG F:=⟨Le.refl _,k.len,k.within,k.boxes⟩;exact gQ k' k.boxes.st (by simp[hn]) (fun b B hb e=>by
   grind) (fun b _=>rfl) (fun b hb=>by grind[Env.bY]) rfl rfl hw
 obtain⟨Fs,⟨h1,h2⟩,h3⟩:=k.boxes;simp only[AOC]at h3;have xN:∀c,E1.T c→w'.heap[c]? =w.heap[c]?:=fun c hc=>hw c (h3.dV c hc) fun hf=>h3.free c (by simp[hf]) hc
 have hF0:∀c∈Fs.flatten,w'.heap[c]? =w.heap[c]?:=fun c hc=>hw c (h3.lt c (by simp[hc])) fun hf=>(AOj.1 h3.nodup).2.2 c hc c hf rfl
 refine⟨⟨h.OO,h.tm.imp fun _ _ hx=>PX keep hx,?_⟩,?_,?_⟩
 ·refine⟨Fs++[F'],⟨by simp[h1],fun n B G hB hG=> ?_⟩,?_⟩
  ·by_cases wE:n<kG.length
   ·rw[AOw wE]at hB
    rw[AOw (by omega)]at hG;have:=h2 n B G hB hG;have hGw:∀c∈G,w'.heap[c]? =w.heap[c]?:=fun c hc=>hF0 c (ASb.2 ⟨G,APx hG,hc⟩)
    cases B with
    |mem cs=>
     obtain⟨rfl,arr,ty,fr,a1,a2,a3⟩:=this;exact⟨rfl,arr,ty,fr,(hGw (E1.IE n) (by simp)).trans a1,a2,a3.imp fun _ _ hv=>GS vk hv⟩
    |sl d0 r0 TH=>
     refine⟨this.1,?_⟩;have e0:E'.IF n=E1.IF n:=by grind[Env.bY]
     rw[e0];exact Eb (fun _ hc=>hc) (fun c hc=>xN c (h3.st c hc)) hGw this.2
    |dead=>exact this
   ·have hnn:=(ANF.1 hB).1
    simp at hnn;obtain rfl:n=kG.length:=by omega
    rw[AP3 (by omega)]at hB hG;simp[h1]at hB hG;subst hB hG;refine⟨hd,?_⟩;grind[Env.bY]
  ·simp only[AS6,ATF,AU6,AOC]
   have nd0:=AOj.1 h3.nodup;refine⟨AOj.2 ⟨nd0.1,nd,fun x hx y hy e=> ?_⟩,fun c hc ht=> ?_,fun c hc=> ?_,h3.st,fun c hc=>ASn (h3.dV c hc) g.size⟩
   ·grind
   ·rcases AOk.1 hc with hc|hc
    ·exact h3.free c (by simp[hc]) ht
    ·rcases hF' c hc with h|h
     ·exact h3.free c (by simp[h]) ht
     ·have:=h3.dV c ht;omega
   ·rcases AOk.1 hc with hc|hc
    ·exact ASn (h3.lt c (by simp[hc])) g.size
    simp_all
 ·refine⟨⟨k.le.T,k.le.S,k.le.Tof,k.le.zt,fun c hc=>xN c (k.le.T c hc),g.os,g.tape,g.output,g.size⟩,by simp[hn],fun b hb=>⟨by show E1.IE b=_;rw[k.le.IE],?_⟩,fun b hb=> ?_,fun n B B' _ hB UA yH=> ?_⟩
  ·have:E'.IF b=E1.IF b:=by grind[Env.bY]
   rw[this,k.le.IF]
  ·have hbl:=(ANF.1 hb).1
   rw[AOw (by omega)];obtain⟨B,hB⟩:∃B,kG[b]? =some B:=⟨_,AM4 (by omega)⟩;rcases k.within b B hB with e|e
   all_goals simp_all
  ·have wE:=(ANF.1 hB).1
   rw[AOw (by omega)]at UA;rcases k.within n B' UA with e|e
   ·simp_all
   rw[hB]at e;cases e;refine⟨Vy.refl yH,fun c hc=> ?_⟩;have hF:Fs[n]? =some (Fs[n]'(by omega)):=AM4 _;have hR:=h2 n B _ UA hF;have dN:xQ E1 w n B c:=by
    cases B with
    |mem cs=>simp only[xQ]at hc⊢;rw[k.le.IE];omega
    |sl d r rows=>simp only[xQ]at hc⊢;rw[k.le.IF];omega
    |dead=>exact hc
   rcases fN hR dN with hs|hs
   ·exact xN c (h3.st c hs)
   grind[List.mem_flatten,List.mem_of_getElem?]
 ·have e0:E'.IF kG.length=v:=by simp[E',Env.bY]
  refine⟨?_,?_⟩
  ·have:=X_ ho
   simp only[Rd]at this;obtain⟨_,_,e,_⟩:=this;simp only[AR6,ASq]at e;rw[e];rfl
  ·have:(kG++[Bx.sl d r rows])[kG.length]? =some (.sl d r rows):=by simp
   rw[this];exact⟨by simp[DE],⟨_,rfl⟩,by rw[e0,DA]⟩
theorem qn{E:Env}{σ:St}{a:Act}{w:World}(h:Rel E σ a w){cs:List AV}{arr:Array Value}(ty:TypeId)(hv:jj E w σ.bx cs arr.toList):
  let E':=E.ew σ.bx.length w.heap.size
  let w':=w.alloc (.cells arr ty)
  Rel E' (σ.new (.mem cs)) a w'∧SD [] E σ.bx w E' (σ.new (.mem cs)).bx w'∧XR E' w' (σ.new (.mem cs)).bx (.c (.Ik σ.bx.length 0)) (.pointer (some ⟨w.heap.size,0,none⟩)):=by
 intro E' w';have st:=h.bx.st;have hw:∀c,c<w.heap.size→c∉([]:ABG)→w'.heap[c]? =w.heap[c]?:=fun c hc _=>by
  show(w.heap.push (.cells arr ty))[c]? =_
  grind
 have hB0:=h.bx;have keep:Tg E w σ.bx E' w' (σ.bx++[.mem cs]):=gQ (HJ.refl hB0) st (by simp) (fun b B hb e=>by
   grind) (fun b hb=>by grind[Env.ew]) (fun b _=>rfl) rfl rfl hw
 obtain⟨Fs,⟨h1,h2⟩,h3⟩:=h.bx;simp only[AOC]at h3;have new:w'.heap[w.heap.size]? =some (.cells arr ty):=by
  show(w.heap.push (.cells arr ty))[w.heap.size]? =_
  simp
 refine⟨⟨h.OO,h.tm.imp fun _ _ hx=>PX keep hx,?_⟩,?_,?_⟩
 ·refine⟨Fs++[[w.heap.size]],⟨by simp[St.new,h1],fun n B G hB hG=> ?_⟩,?_⟩
  ·simp only[St.new]at hB
   by_cases wE:n<σ.bx.length
   ·rw[AOw wE]at hB
    rw[AOw (by omega)]at hG;have:=h2 n B G hB hG;have hGw:∀c∈G,w'.heap[c]? =w.heap[c]?:=fun c hc=>hw c (h3.lt c (by simp;grind)) (by simp)
    have eb:E'.IE n=E.IE n:=by grind[Env.ew]
    cases B with
    |mem cs0=>
     obtain⟨rfl,arr0,ty0,fr,a1,a2,a3⟩:=this;refine⟨by rw[eb],arr0,ty0,fr,?_,a2,a3.imp fun _ _ hv=>GS keep hv⟩;simp_all
    |sl d0 r0 TH=>exact⟨this.1,Eb (fun _ hc=>hc) (fun c hc=>hw c (h3.dV c (st c hc)) (by simp)) hGw this.2⟩
    |dead=>exact this
   ·have hnn:=(ANF.1 hB).1
    simp at hnn;obtain rfl:n=σ.bx.length:=by omega
    rw[AP3 (by omega)]at hB hG;simp[h1]at hB hG;subst hB hG;have eb:E'.IE σ.bx.length=w.heap.size:=by simp[E',Env.ew]
    refine⟨by rw[eb],arr,ty,(0,0),by simp_all,fun i _ h=>by omega,hv.imp fun _ _ hv=>GS keep hv⟩
  ·simp only[AS6,ATF,AU6,AOC]
   refine⟨AOj.2 ⟨h3.nodup,by simp,fun x hx y hy e=> ?_⟩,fun c hc ht=> ?_,fun c hc=> ?_,h3.st,fun c hc=> ?_⟩
   ·subst e
    simp at hy;have:=h3.lt x hx;omega
   ·rcases AOk.1 hc with hc|hc
    ·exact h3.free c hc ht
    ·simp at hc;have:=h3.dV c ht;omega
   ·rcases AOk.1 hc with hc|hc
    ·have:=h3.lt c hc;grind
    grind
   ·have:=h3.dV c hc;grind
 ·refine⟨⟨fun _ h=>h,fun _ h=>h,fun _ h=> .inl h,fun _ h=> .inl h,fun c hc=>hw c (h3.dV c hc) (by simp),rfl,rfl,rfl,by simp[w']⟩,by simp[St.new],fun b hb=>⟨?_,rfl⟩,fun b hb=> ?_,fun n B B' _ hB UA yH=> ?_⟩
  ·grind[Env.ew]
  ·grind[List.getElem?_eq_some_iff,St.new,List.getElem?_append_left]
  ·have wE:=(ANF.1 hB).1
   simp only[St.new]at UA;rw[AOw wE,hB]at UA;cases UA;refine⟨Vy.refl yH,fun c hc=> ?_⟩;have hF:Fs[n]? =some (Fs[n]'(by omega)):=AM4 _;rcases fN (h2 n B _ hB hF) hc with hs|hs
   ·exact hw c (h3.dV c (st c hs)) (by simp)
   ·exact hw c (h3.lt c (ASb.2 ⟨_,APx hF,hs⟩)) (by simp)
 ·refine⟨by simp[St.new],?_⟩
  simp[E',Env.ew]
end Go.Fw
end
section
namespace Go.Fw
theorem Gy:∀r:Ty,(Ej r).length=r.n
 | .cons c r=>by simp[Ej,Ty.n,Gy r]
 | .unit=>rfl
 | .int _=>rfl
 | .bool=>rfl
 | .str=>rfl
 | .sl _=>rfl
theorem ar{E:Env}{w:World}{vw:List Bx}(t:Ty):VR E w vw (yL t) (zv t):=by
 cases t<;>first
  |exact VR.int _ _
  |exact VR.bool _
  |exact VR.str _
  |rfl
  |trivial
theorem ZG{E:Env}{w:World}{vw:List Bx}:∀r:Ty,jj E w vw (ba r) (Ej r)
 | .cons c r=>⟨ar c,ZG r⟩
 | .unit=>trivial
 | .int k=>⟨ar (.int k),trivial⟩
 | .bool=>⟨ar .bool,trivial⟩
 | .str=>⟨ar .str,trivial⟩
 | .sl r=>⟨ar (.sl r),trivial⟩
theorem fD{w:World}{S:Nat→Prop}{d:Nat}:∀{r:Ty},r.tX=true→Ow w S d r (Ej r) r.z []
 | .cons c r,h=>by
  simp only[Ty.tX,ANN]at h;simp only[Ow,Ej];refine⟨_,_,[],[],rfl,rfl,?_,fD h.2⟩;cases c with
  |sl q=>exact oH
  |int k=>simp[Ow,zv,Ty.z]
  |bool=>simp[Ow,zv,Ty.z]
  |str=>simp[Ow,zv,Ty.z]
  |unit=>simp[Ty.cell]at h
  |cons _ _=>simp[Ty.cell]at h
 | .unit,_=>by simp[Ow,Ej]
 | .int k,_=>by simp[Ow,Ej,zv,Ty.z]
 | .bool,_=>by simp[Ow,Ej,zv,Ty.z]
 | .str,_=>by simp[Ow,Ej,zv,Ty.z]
 | .sl q,_=>oH
theorem ZS{n:Nat}:∀{css:List (List Value)} {ex:List Value} {i j:Nat} {cs:List Value},(∀c∈css,c.length=n)→css[i]? =some cs→j<n→(css.flatten++ex)[i*n+j]? =cs[j]?
 |[],_,_,_,_,_,h,_=>by simp at h
 |c::css,ex,0,j,cs,hl,h,hj=>by
  grind
 |c::css,ex,i+1,j,cs,hl,h,hj=>by
  have hc:=hl c (by simp);have ih:=ZS (css:=css) (ex:=ex) (i:=i) (j:=j) (cs:=cs) (fun c' dN=>hl c' (AXK _ dN)) (by simp_all) hj;simp only[ATF,AOK];rw[AP3 (by grind),←ih];congr 1;grind
theorem nn{w:World}{b:Nat}{arr:Array Value}{ty:TypeId}{fr:ACT}(hb:w.heap[b]? =some (.cells arr ty fr)){n:Nat}{css:List (List Value)}{ex:List Value}(ha:arr.toList=css.flatten++ex)
  (hl:∀c∈css,c.length=n) {i:Nat} {cs:List Value} (h:css[i]? =some cs):BX w b (i*n) cs:=by
 intro j v hj;have hjn:j<n:=by
  grind
 simp only[World.cell?,hb,ASu,ANw,AQS];rw[←Array.getElem?_toList,ha,ZS hl h hjn,hj]
theorem dx{w:World}{S:Nat→Prop}{d b cap:Nat}{r:Ty}{rows:List r.D}{arr:Array Value}{ty:TypeId}{fr:ACT}(hb:w.heap[b]? =some (.cells arr ty fr)){css:List (List Value)}{ex:List Value}
  (ha:arr.toList=css.flatten++ex) (hc:css.length=rows.length) (yB:rows.length≤cap) (P5:cap*r.n≤arr.size) (hu:vL fr (arr.size+mk r)) {Fs:List ABG} (hF:Fs.length=rows.length)
  (cc:∀(i:Nat) cs y G,css[i]? =some cs→rows[i]? =some y→Fs[i]? =some G→Ow w S d r cs y G):
  Ow w S (d+1) (.sl r) [.slice (some ⟨b,0,none⟩) rows.length cap] rows (b::Fs.flatten):=by
 have hl:∀c∈css,c.length=r.n:=by
  intro c dN;obtain⟨i,hi,rfl⟩:=ASe dN;exact Yc (cc i _ _ _ (AM4 hi) (AM4 (by omega)) (AM4 (by omega)))
 simp only[Ow];refine⟨_,cap,rfl,yB,.inr ⟨b,0,arr,ty,fr,Fs,rfl,hb,by omega,hu,rfl,hF,fun i y G hy hG=> ?_⟩⟩;have hi:i<css.length:=by
  grind
 refine⟨css[i],hl _ (AN7 hi),?_,cc i _ y G (AM4 hi) hy hG⟩;rw[AS7];grind[nn,List.getElem?_eq_getElem]
theorem XY(n:Nat):vL (0,0) n:=fun i _ h=>by omega
theorem JJ{w:World}{o:Obj}{c:Nat}(h:c<w.heap.size):(w.heap.push o)[c]? =w.heap[c]?:=by
 grind
section
variable{Y:Type} {P:Program} {T:J8} (hT:Ei P T) {o:Oper} {E:Env} {σ:St} {a:Act} {w:World} {k:K Y} {y:Y}
theorem AEH(h:Rel E σ a w){t:TypeId}{x:Operand}(ho:o.op= .box t x)(hk:(σ.ev x).cells.all AV.known=true)(hn:(σ.ev x).cells≠[])(e:k (.c (.Ik σ.bx.length 0)) (σ.new (.mem (σ.ev x).cells))=some y):
  Lw P o E σ a w k y:=by
 obtain⟨h1,h2⟩:=pR (h.ev x) hk hn;obtain⟨r1,r2,r3⟩:=qn h t h1;refine⟨_,_,_,_,_,.inl ?_,r1,r3,r2.any,rfl,e⟩;simp only[execOp,ho,Instr.box,newVar,newRow,Sem.run_bind,run_newObj,Result.andThen_ok,Sem.run_pure];rfl
include hT
theorem row_zero{t:Nat}{r:Ty}(e:T.i7 t=some r):∃i z,P.info? t=some i∧i.zero=some z∧z.cells.toList=Ej r∧r.tX=true:=by
 unfold J8.i7 at e;split at e
 ·rename_i ti Vr
  obtain⟨i,h1,_,_,h2⟩:=(hT t ti Vr).info;simp_all
 simp_all
theorem y8(h:Rel E σ a w){t:TypeId}(ho:o.op= .alloc t){r:Ty}(hr:T.i7 t=some r)(e:k (.c (.Ik σ.bx.length 0)) (σ.new (.mem (ba r)))=some y):Lw P o E σ a w k y:=by
 obtain⟨i,z,h1,h2,h3,_⟩:=row_zero hT hr;obtain⟨r1,r2,r3⟩:=qn (arr:=z.cells) h t (by rw[h3];exact ZG r);refine⟨_,_,_,_,_,.inl ?_,r1,r3,r2.any,rfl,e⟩;simp only[execOp,ho,Instr.alloc,zeroValue,typeInfo,newVar,newRow,Sem.run_bind,run_program,Result.andThen_ok,h1,h2,run_newObj,Sem.run_pure];rfl
end
end Go.Fw
end
section
namespace Go.Fw
def FM(arr:Array Value):Nat→List Value→Array Value
 |_,[]=>arr
 |o,c::l=>FM (arr.setIfInBounds o c) (o+1) l
theorem Fl:∀(l:List Value) (o:Nat) (arr:Array Value),(FM arr o l).size=arr.size
 |[],_,_=>rfl
 |c::l,o,arr=>by simp[FM,Fl l]
theorem pI(off:Nat):∀(l:List Value) (k:Nat) (arr:Array Value),(l.zipIdx k).foldl (fun cs (q:Value×Nat)=>cs.setIfInBounds (off+q.2) q.1) arr=FM arr (off+k) l
 |[],_,_=>rfl
 |c::l,k,arr=>by
  simp only[List.zipIdx_cons,List.foldl_cons,FM];rw[pI off l (k+1)];rfl
theorem Xw{E:Env}{w:World}{vw:List Bx}:∀{xs:List AV} {vs:List Value} {cs eD:List AV} {arr:Array Value} {o:Nat},jj E w vw cs arr.toList→jj E w vw xs vs→Yd cs o xs=some eD→
  jj E w vw eD (FM arr o vs).toList∧o+xs.length≤cs.length∨(xs=[]∧eD=cs)
 |[],[],cs,eD,arr,o,h,_,e=>by simp only[Yd,ANB]at e;simp_all
 |x::xs,v::vs,cs,eD,arr,o,h,hx,e=>by
  simp only[Yd]at e;split at e
  case isFalse=>cases e
  rename_i ho;have h1:jj E w vw (cs.set o x) (arr.setIfInBounds o v).toList:=by
   rw[Array.toList_setIfInBounds];exact CW.set h hx.1
  rcases Xw h1 hx.2 e with⟨h2,h3⟩|⟨rfl,rfl⟩
  ·refine .inl ⟨h2,?_⟩
   grind
  ·cases vs with
   |nil=>exact .inl ⟨h1,by grind⟩
   |cons _ _=>exact hx.2.elim
 |[],_::_,_,_,_,_,_,hx,_=>hx.elim
 |_::_,[],_,_,_,_,_,hx,_=>hx.elim
section
variable{Y:Type} {P:Program} {T:J8} (hT:Ei P T) {o:Oper} {E:Env} {σ:St} {a:Act} {w:World} {k:K Y} {y:Y}
def xZ(E:Env)(w:World)(vw:List Bx)(l:List (Nat×XV))(m:List (Nat×Value)):Prop:=CW (fun x v=>x.1=v.1∧XR E w vw x.2 v.2) l m
theorem ow(h:Rel E σ a w)(ps:Array (Nat×Operand)):xZ E w σ.bx (ps.toList.map fun q=>(q.1,σ.ev q.2)) (ps.map fun(i,x)=>(i,a.eval x)).toList:=by
 rw[Array.toList_map]
 generalize ps.toList=l
 induction l with
 |nil=>trivial
 |cons q l ih=>exact⟨⟨rfl,h.ev q.2⟩,ih⟩
theorem sa{place:Nat→Option ACT}{i off size:Nat}(hp:place i=some (off,size)){cells:Array Value}{v:Value}{rest:List (Nat×Value)}(h1:v.cells.size=size)(h2:off+v.cells.size≤cells.size):
  Instr.fill place cells ((i,v)::rest)=Instr.fill place (FM cells off v.cells.toList) rest:=by
 have e:v.cells.zipIdx.foldl (fun cs (q:Value×Nat)=>cs.setIfInBounds (off+q.2) q.1) cells=FM cells off v.cells.toList:=by
  rw[←Array.foldl_toList];have:(v.cells.zipIdx).toList=v.cells.toList.zipIdx:=by simp
  rw[this];exact pI off v.cells.toList 0 cells
 conv=>lhs;unfold Instr.fill
 grind
theorem qj{α β:Type}{f:α→Option β}{g:α→β}:∀{l:List α},(∀x∈l,f x=some (g x))→l.mapM f=some (l.map g)
 |[],_=>rfl
 |x::l,h=>by
  simp only[AXT,h x (by simp),qj (l:=l) (g:=g) (fun y hy=>h y (by simp[hy]))];rfl
include hT
theorem cP{fs:List ACT}{vw:List Bx}:∀{parts:List (Nat×XV)} {vals:List (Nat×Value)} {cs eD:List AV} {arr:Array Value},xZ E w vw parts vals→jj E w vw cs arr.toList→gk T fs cs parts=some eD→
  ∃Kt:Array Value,Instr.fill (fun i=>(fs[i]?).bind fun q=>((P.info? q.2).map fun i=>(q.1,i.size))) arr vals=some Kt∧jj E w vw eD Kt.toList
 |[],[],cs,eD,arr,_,h,e=>by
  simp only[gk,ANB]at e;subst e;exact⟨arr,rfl,h⟩
 |(i,x)::ps,(j,v)::vs,cs,eD,arr,hp,h,e=>by
  obtain⟨⟨hij,hx⟩,hp⟩:=hp;simp only at hij hx;subst hij;simp only[gk]at e;split at e
  case h_2=>cases e
  rename_i off u hf;split at e
  case h_2=>cases e
  rename_i ti Vr;split at e
  case isFalse=>cases e
  rename_i hc;obtain⟨c1,c2,c3⟩:=hc;simp only[ANU]at e;obtain⟨cs1,e1,e2⟩:=e;have ea:x.cells≠[]:=by grind
  obtain⟨x1,x2⟩:=pR hx c3 ea;rcases Xw h x1 e1 with⟨s1,s2⟩|⟨s1,_⟩
  ·have P5:v.cells.size=ti.size:=by
    have:=x1.len;simp_all
   have hlen:=h.len;obtain⟨Kt,f1,f2⟩:=cP hp s1 e2;refine⟨Kt,?_,f2⟩;have AZq:(fun i=>(fs[i]?).bind fun q=>((P.info? q.2).map fun i=>(q.1,i.size))) i=some (off,ti.size):=by
    have:=Ei.size hT Vr;simp_all
   grind[sa]
  simp_all
 |[],_::_,_,_,_,hp,_,_=>hp.elim
 |_::_,[],_,_,_,hp,_,_=>hp.elim
theorem yR(h:Rel E σ a w){t:TypeId}{ps:Array (Nat×Operand)}(ho:o.op= .build t ps){s b:Nat}{fs:List ACT}{rw:Option Ty}(Vr:T.get t=some ⟨s,b,.st fs,rw⟩){r:Ty}(hr:T.i7 t=some r)
  {cs:List AV} (hb:gk T fs (ba r) (ps.toList.map fun q=>(q.1,σ.ev q.2))=some cs) (e:k (.agg cs) σ=some y):Lw P o E σ a w k y:=by
 obtain⟨i,z,h1,h2,h3,_⟩:=row_zero hT hr;obtain⟨fields,hu,hfs,P5⟩:=AIo hT Vr;obtain⟨Kt,f1,f2⟩:=cP hT (ow h ps) (arr:=z.cells) (by grind[ZG]) hb;refine Lw.same h (v:= .agg Kt) (x:= .agg cs) ?_ ⟨Kt,rfl,f2⟩ e
 have hb:P.built t (ps.map fun(i,x)=>(i,a.eval x)).toList=some Kt:=by
  unfold Program.built;simp only[h1,hu,h2];have hm:fields.toList.mapM (fun f=>(P.info? f.type).map fun i=>(f.offset,i.size))=some (fields.toList.map fun f=>(f.offset,((P.info? f.type).map (·.size)).getD 0)):=by
   grind[qj]
  simp only[hm];rw[←f1];congr 1;funext n;subst hfs;simp only[List.getElem?_toArray,ASa];cases hn:fields.toList[n]? with
  |none=>simp
  |some f=>
   obtain⟨i',DL,_⟩:=P5 f (APx hn);simp[DL]
 grind[run_build,execOp,Sem.run_bind,Result.andThen_ok,Sem.run_pure]
end
end Go.Fw
end
section
namespace Go.Fw
theorem wrap_small{n:Int}(h0:0≤n)(h1:n≤(C7:Int)):IntKind.i64.wrap n=n:=by
 simp only[C7]at h1;unfold IntKind.wrap;simp only[IntKind.bits,IntKind.signed];grind
theorem HI{m:Nat}{zl:List Value}:((List.replicate m zl).flatten).length=m*zl.length:=by
 simp_all
theorem OA{zl:List Value}:∀{m i:Nat},i<m*zl.length→((List.replicate m zl).flatten)[i]? =zl[i%zl.length]?
 |0,i,h=>by omega
 |m+1,i,h=>by
  simp only[List.replicate_succ,ATF];by_cases hi:i<zl.length
  ·rw[AOw hi,Nat.mod_eq_of_lt hi]
  ·have DL:zl.length≤i:=by omega
   rw[AP3 DL,OA (by grind),←Nat.mod_eq_sub_mod DL]
theorem Wx{zero:Array Value}{zl:List Value}(hz:zero.toList=zl)(m:Nat)(h0:zl≠[]):((Array.range (m*zl.length)).map (fun i=>zero[i%zero.size]!)).toList=(List.replicate m zl).flatten:=by
 have hs:zero.size=zl.length:=by grind
 have ADl:0<zl.length:=AXM.2 h0;apply AUY;intro i;by_cases hi:i<m*zl.length
 ·grind[OA,Nat.mod_lt,Array.toList_map,Array.toList_range,List.getElem?_range,List.getElem?_eq_getElem]
 simp_all
section
variable{Y:Type} {P:Program} {T:J8} (hT:Ei P T) {o:Oper} {E:Env} {σ:St} {a:Act} {w:World} {k:K Y} {y:Y}
include hT
theorem XZ{e:Nat}{ti:TI}{r:Ty}(he:T.get e=some ti)(hr:ti.row=some r):∃i z,P.info? e=some i∧i.size=ti.size∧i.bytes=ti.bytes∧i.zero=some z∧z.cells.toList=Ej r∧r.tX=true:=by
 obtain⟨i,h1,h2,h3,h4⟩:=(hT e ti he).info;simp_all
theorem AAe(h:Rel E σ a w){t:TypeId}{l c:Operand}(ho:o.op= .makeSlice t l c)(e:sZ T t σ (σ.ev l) (σ.ev c) k=some y):Lw P o E σ a w k y:=by
 unfold sZ at e;split at e
 case h_2=>cases e
 rename_i el n m hd hl hc;split at e
 case h_2=>cases e
 rename_i r hr;split at e
 case isFalse=>cases e
 rename_i Vb;split at e
 case isFalse=>cases e
 rename_i hb;obtain⟨b0,b1,b2⟩:=hb;obtain⟨el',ti,hu,Vr,hs,hby,hrow⟩:=K7 hT Vb;obtain⟨i,z,i1,i2,i3,i4,i5,hg⟩:=XZ hT Vr hrow;obtain⟨κ1,e1⟩:=I1 hl (h.ev l);obtain⟨κ2,e2⟩:=I1 hc (h.ev c);have w1:=wrap_small b0 (by omega);have w2:=wrap_small (n:=m) (by omega) b2
 let arr:Array Value:=(Array.range (m.toNat*r.n)).map (fun j=>(if m.toNat*r.n=0 then #[]else z.cells)[j%(if m.toNat*r.n=0 then(#[]:Array Value)else z.cells).size]!)
 have dM:arr.toList=(List.replicate n.toNat (Ej r)).flatten++(List.replicate (m.toNat-n.toNat) (Ej r)).flatten:=by
  have hz:=Gy r;have split:(List.replicate n.toNat (Ej r)).flatten++(List.replicate (m.toNat-n.toNat) (Ej r)).flatten=(List.replicate m.toNat (Ej r)).flatten:=by
   grind[List.flatten_append,List.replicate_append_replicate]
  rw[split];by_cases h0:m.toNat*r.n=0
  ·grind[List.length_eq_zero_iff,HI]
  ·have ea:Ej r≠[]:=by
    grind
   have:=Wx i5 m.toNat ea;grind
 let w':=w.alloc (.cells arr el')
 have new:w'.heap[w.heap.size]? =some (.cells arr el'):=by
  show(w.heap.push (.cells arr el'))[w.heap.size]? =_
  simp
 have AL6:arr.size=m.toNat*r.n:=by simp[arr]
 have how:Ow w' E.S (8+1) (.sl r) [.slice (some ⟨w.heap.size,0,none⟩) (List.replicate n.toNat r.z).length m.toNat] (List.replicate n.toNat r.z) (w.heap.size::(List.replicate n.toNat ([]:ABG)).flatten):=by
  refine dx new dM (by simp) (by grind) (by omega) (XY _) (by simp) fun i cs y G h1 h2 h3=> ?_
  simp only[List.getElem?_replicate]at h1 h2 h3;split at h1
  ·rename_i hi
   rw[AM1 hi]at h2 h3;grind[fD]
  simp_all
 have hF:(List.replicate n.toNat ([]:ABG)).flatten=[]:=by simp
 rw[hF]at how;simp only[AS8]at how;obtain⟨r1,r2,r3⟩:=UZ h (HJ.refl h.bx) (w':=w') (d:=9) (by omega) how (by simp) (by simp) (by simp[w']) (fun c hc _=>JJ hc) ⟨rfl,rfl,rfl,by simp[w']⟩;refine⟨_,_,_,_,_,.inl ?_,r1,r3,r2.any,rfl,e⟩;have AYQ:(i.bytes:Int)*m≤2^48:=by
  have h1:(i.bytes:Int)≤512:=by omega
  have h2:(i.bytes:Int)*m≤512*m:=Int.mul_le_mul_of_nonneg_right h1 (by omega);grind[C7]
 simp only[execOp,ho,Instr.makeSlice,e1,e2,Sem.run_bind,BV hu,Result.andThen_ok,asInt,asIntOf,Sem.run_pure,typeInfo,run_program,i1,w1,w2];rw[AM2 (by grind)];by_cases h0:m.toNat*r.n=0
 ·have e3:arr=(Array.range (m.toNat*r.n)).map (fun j=>(#[]:Array Value)[j%(#[]:Array Value).size]!):=by simp_all
  simp only[Sem.run_bind,run_askRoom,Result.andThen_ok,sizeOf,typeInfo,run_program,i1,Sem.run_pure,i2,hs,h0,ASi,newRow,run_newObj];simp only[w',e3,h0];rfl
 ·have e3:arr=(Array.range (m.toNat*r.n)).map (fun j=>z.cells[j%z.cells.size]!):=by grind
  simp only[Sem.run_bind,run_askRoom,Result.andThen_ok,sizeOf,typeInfo,run_program,i1,Sem.run_pure,i2,hs,h0,AQS,newRow,run_newObj,zeroValue,i4];simp only[w',e3];rfl
end
end Go.Fw
end
section
namespace Go.Fw
theorem js{w:World}{B S:Nat→Prop}{d:Nat}:∀{r:Ty} {cs:List Value} {x:r.D},r.flat=true→Rd w B r cs x→Ow w S d r cs x []
 | .cons c r,cs,x,h,hr=>by
  simp only[Ty.flat,ANN]at h;simp only[Rd]at hr;obtain⟨v,l,rfl,h1,h2⟩:=hr;simp only[Ow];exact⟨v,l,[],[],rfl,rfl,js h.1 h1,js h.2 h2⟩
 | .unit,_,_,_,hr=>by grind[Rd,Ow]
 | .int k,_,_,_,hr=>by grind[Rd,Ow]
 | .bool,_,_,_,hr=>by grind[Rd,Ow]
 | .str,_,_,_,hr=>by grind[Rd,Ow]
 | .sl q,_,_,h,_=>by simp[Ty.flat]at h
theorem MQ{P:Program}{w:World}{b o:Nat}{cs:List Value}(h:BX w b o cs):(loadCells ⟨b,o,none⟩ cs.length).run P w= .ok cs.toArray w:=
 run_loadCells_list (P:=P) w ⟨b,o,none⟩ cs fun j v hv=>by rw[Addr.add_eq];exact h j v hv
theorem YZ{l:List Value}:(l.map fun v=>[v]).flatten=l:=by
 induction l with
 |nil=>rfl
 |cons a l ih=>simp[ih]
theorem pD{w:World}{B:Nat→Prop}{r:Ty}{b o:Nat}{ys:List r.D}(h:∀(i:Nat) (y:r.D),ys[i]? =some y→ ∃cs,cs.length=r.n∧BX w b (o+i*r.n) cs∧Rd w B r cs y):
  ∃css:List (List Value),css.length=ys.length∧(∀c∈css,c.length=r.n)∧BX w b o css.flatten∧ ∀(i:Nat) cs y,css[i]? =some cs→ys[i]? =some y→Rd w B r cs y:=by
 induction ys generalizing o with
 |nil=>exact⟨[],rfl,by simp,fun _ _ h=>by simp at h,fun i cs y h=>by simp at h⟩
 |cons y ys ih=>
  obtain⟨cs,c1,c2,c3⟩:=h 0 y rfl;obtain⟨css,d1,d2,d3,d4⟩:=ih (o:=o+r.n) (fun i z hz=>by
   obtain⟨cs,e1,e2,e3⟩:=h (i+1) z (by simp_all);grind)
  refine⟨cs::css,by simp[d1],by simp_all,?_,?_⟩
  ·intro j v hj
   simp only[ATF]at hj;by_cases xR:j<cs.length
   ·rw[AOw xR]at hj
    have:=c2 j v hj;simp_all
   ·rw[AP3 (by omega)]at hj
    have:=d3 _ v hj;grind
  grind
theorem BX.append{w:World}{b o:Nat}{l m:List Value}(h:BX w b o l)(k:BX w b (o+l.length) m):BX w b o (l++m):=by
 intro j v hj;by_cases xR:j<l.length
 ·rw[AOw xR]at hj
  exact h j v hj
 ·rw[AP3 (by omega)]at hj
  have:=k _ v hj;grind
section
variable{Y:Type} {P:Program} {T:J8} (hT:Ei P T) {o:Oper} {E:Env} {σ:St} {a:Act} {w:World} {k:K Y} {y:Y}
theorem I_(hT:Ei P T){t:Nat}{d:TD}(e:(T.get t).map TI.desc=some d):gR P t d:=by
 simp only[AND]at e;obtain⟨ti,h1,rfl⟩:=e;exact(hT t ti h1).und
theorem qm{src dst e:Nat}(hs:P.underlying src=some (.slice e))(he:P.underlying e=some (.int .u8))(hd:P.underlying dst=some .string){x:Value}{l:AAD}{B:Nat→Prop}
  (h:Rd w B (.sl (.int .u8)) [x] l):(convert src dst x).run P w= .ok (.string ⟨(l.map fun n:Int=>UInt8.ofNat n.toNat).toArray⟩) w:=by
 simp only[Rd]at h;obtain⟨a,cap,hx,hle,h⟩:=h;simp only[AR6,ASq]at hx;subst hx;rcases h with h|⟨b,o,rfl,_,h⟩
 ·obtain rfl:=ARO h
  cases a with
  |none=>exact run_convert_bytes_nil w src e hs he _ _ dst hd
  |some a=>
   rw[run_convert_bytes_string w src dst e _ _ cap hs he hd];rfl
 ·refine run_convert_bytes_arg w src e hs he b o _ cap l rfl (fun i hi=> ?_) dst hd
  obtain⟨cs,c1,c2,c3⟩:=h i _ (AM4 hi);subst c3;have:=c2 0 _ rfl;grind
include hT in
theorem ABY(h:Rel E σ a w){src dst:Nat}{x:Operand}(ho:o.op= .convert src dst x)(e:su T src dst σ (σ.ev x) k=some y):Lw P o E σ a w k y:=by
 have hx:=h.ev x;unfold su at e;split at e
 ·rename_i κ0 κ j n hs hd hv
  have h1:=I_ hT hs;have h2:=I_ hT hd;rw[hv]at hx;have ZL:=cK (E:=E) (w:=w) (vw:=σ.bx) hx;refine Lw.same h (v:= .int κ (κ.wrap n)) (x:= .c (.v (.int κ) (κ.wrap n))) ?_ (VR.int (E:=E) (vw:=σ.bx) _ _) e
  simp only[gR]at h1 h2;simp only[execOp,ho,ZL,convert,Sem.run_bind,BV h1,BV h2,Result.andThen_ok,Conv.intToInt,Sem.run_pure]
 ·rename_i s hs hd hv
  have h1:=I_ hT hs;have h2:=I_ hT hd;rw[hv]at hx;have ZL:=YA (E:=E) (w:=w) (vw:=σ.bx) hx;refine Lw.same h (v:= .string ⟨s.toArray⟩) (x:= .c (.v .str s)) ?_ (VR.str (E:=E) (vw:=σ.bx) _) e
  simp only[gR]at h1 h2;simp only[execOp,ho,ZL,convert,Sem.run_bind,BV h1,BV h2,Result.andThen_ok,Sem.run_pure]
 ·rename_i el s hs hd hv
  have h1:=I_ hT hs;have h2:=I_ hT hd;rw[hv]at hx;have ZL:=YA (E:=E) (w:=w) (vw:=σ.bx) hx;split at e
  case h_2=>cases e
  rename_i Vb;have h3:=I_ hT Vb;split at e
  case isFalse=>cases e
  rename_i Ym;simp only[gR]at h1 h2 h3
  let S0:ByteArray:=⟨s.toArray⟩
  have P5:S0.size=s.length:=by simp[S0,ByteArray.size]
  have kZ:=Lib.run_convert_string_bytes (P:=P) w src dst el S0 h1 h2 h3;have yB:s.length≤grownCap w S0.size 0 el:=by rw[P5];exact grownCap_ge _ _ _ _
  have new:=Lib.bytesWorld_at_new w el S0;have dM:(Lib.bytesCells w el S0).toList=(s.map fun c=>[Value.int .u8 (c.toNat:Int)]).flatten++List.replicate (grownCap w S0.size 0 el-S0.size) (.int .u8 0):=by
   have:(s.map fun c=>[Value.int .u8 (c.toNat:Int)]).flatten=s.map fun c=>Value.int .u8 (c.toNat:Int):=by
    have:=YZ (l:=s.map fun c=>Value.int .u8 (c.toNat:Int));simpa[AUL,Function.comp_def]using this
   rw[this];simp[Lib.bytesCells,S0]
  have AL6:(Lib.bytesCells w el S0).size=grownCap w S0.size 0 el:=by
   rw[←AUs,dM];have:((s.map fun c=>[Value.int .u8 (c.toNat:Int)]).flatten).length=s.length:=by
    have:=YZ (l:=s.map fun c=>Value.int .u8 (c.toNat:Int));rw[AUL]at this;have e2:(s.map fun c=>[Value.int .u8 (c.toNat:Int)])=s.map ((fun v=>[v])∘fun c=>Value.int .u8 (c.toNat:Int)):=rfl;rw[e2,this];simp
   rw[AOq,this,AS8];omega
  have how:Ow (Lib.bytesWorld w el S0) E.S (8+1) (.sl (.int .u8)) [.slice (some ⟨w.heap.size,0,none⟩) (s.map fun c=>(c.toNat:Int)).length (grownCap w S0.size 0 el)] (s.map fun c=>(c.toNat:Int))
    (w.heap.size::(List.replicate s.length ([]:ABG)).flatten):=by
   refine dx (css:=s.map fun c=>[Value.int .u8 (c.toNat:Int)]) new dM (by simp) (by simpa using yB) (by simp[Ty.n];omega) (fun i hi hh=>by simp only[mk]at hi;omega) (by simp) fun i cs y G q1 q2 q3=> ?_
   simp only[ASa,AND]at q1 q2;obtain⟨c1,z1,rfl⟩:=q1;obtain⟨c2,z2,rfl⟩:=q2;rw[z1]at z2;cases z2;have:G=[]:=AS9 (APx q3);subst this;simp[Ow]
  have hF:(List.replicate s.length ([]:ABG)).flatten=[]:=by simp
  rw[hF]at how;obtain⟨r1,r2,r3⟩:=UZ h (HJ.refl h.bx) (w':=Lib.bytesWorld w el S0) (d:=9) (by omega) how (by simp) (by simp) (by simp[Lib.bytesWorld_size]) (fun c hc _=>Lib.bytesWorld_at_old w el S0 c hc)
   ⟨by simp[Lib.bytesWorld,World.freeze]<;>rfl,by simp[Lib.bytesWorld,World.freeze]<;>rfl,by simp[Lib.bytesWorld,World.freeze]<;>rfl,by rw[Lib.bytesWorld_size];omega⟩
  refine⟨_,_,_,_,_,.inl ?_,r1,r3,r2.any,rfl,e⟩;simp only[execOp,ho,ZL,Sem.run_bind];have e5:=kZ;simp only[S0]at e5;rw[e5];simp only[Result.andThen_ok,Sem.run_pure,ATV];rfl
 ·rename_i el z hs hd hv
  have h1:=I_ hT hs;have h2:=I_ hT hd;rw[hv]at hx;split at e
  case h_2=>cases e
  rename_i l Vb hl;have h3:=I_ hT Vb;simp only[gR]at h1 h2 h3;obtain⟨Fs,hB,hS⟩:=h.bx;have ZN:=VN (FP.refl σ.bx) hB hS.st hx hl;have hr:=qm (P:=P) h1 h3 h2 ZN;refine Lw.same h (v:= .string ⟨(l.map fun n:Int=>UInt8.ofNat n.toNat).toArray⟩) (x:= .c (.v .str (l.map fun n:Int=>UInt8.ofNat n.toNat))) ?_ (VR.str (E:=E) (vw:=σ.bx) _) e
  simp only[execOp,ho,Sem.run_bind,hr,Result.andThen_ok,Sem.run_pure]
 ·cases e
end
end Go.Fw
end
section
namespace Go.Fw
theorem cr:∀(l:List Value) (o:Nat) (arr:Array Value) (p q:List Value),p.length=o→(∃m:List Value,m.length=l.length∧arr.toList=p++m++q)→(FM arr o l).toList=p++l++q
 |[],o,arr,p,q,hp,⟨m,hm,h⟩=>by
  grind[List.eq_nil_of_length_eq_zero,FM]
 |c::l,o,arr,p,q,hp,⟨m,hm,h⟩=>by
  cases m with
  |nil=>simp_all
  |cons b m=>
   simp only[FM];have:=cr l (o+1) (arr.setIfInBounds o c) (p++[c]) q (by simp[hp]) ⟨m,by simp_all,by
    simp_all⟩
   simp_all
theorem HJ.more{E E1 E2:Env}{w:World}{vw bx kG bO:List Bx}{G F1 F2 A W:ABG}(k1:HJ E w vw bx G E1 kG F1)(k2:HJ E1 w vw kG (F1++G) E2 bO F2)(hp:F1.Perm (A++W)):
  let E3:Env:={ E2 with S:=fun c=>E2.S c∨c∈W,T:=fun c=>E2.T c∨c∈W }
  HJ E w vw bx G E3 bO (A++F2):=by
 intro E3;have hB:=k2.boxes.perm (G':=(F2++A)++W++G) (by
  grind)
 obtain⟨hle,Yl⟩:=hB.share;exact⟨(k1.le.trans k2.le).trans hle,k2.len.trans k1.len,fun b B hb=>(k2.within b B hb).elim .inl (k1.within b B),Yl.perm (ATl _ List.perm_append_comm)⟩
theorem aN{w:World}{vw:List Bx}{r:Ty}(hg:r.tX=true):∀{n i:Nat} {parts:List (Nat×XV)} {vals:List (Nat×Value)} {E:Env} {bx:List Bx} {G:ABG} {d:Nat} {rows:List r.D} {RI:List Bx} {d':Nat},
  C8 E w vw bx G→FP bx vw→1≤d→xZ E w vw parts vals→Zb r i n parts bx d=some (rows,RI,d')→1≤d'∧d'≤d∧rows.length=n∧ ∃(E':Env) (Fs:List ABG) (css:List (List Value)),
   HJ E w vw bx G E' RI Fs.flatten∧css.length=n∧Fs.length=n∧(∀(k:Nat) cs y G,css[k]? =some cs→rows[k]? =some y→Fs[k]? =some G→Ow w E'.S (d'-1) r cs y G)∧
   ∀(pre:List (List Value)) (arr:Array Value),pre.length=i→(∀c∈pre,c.length=r.n)→arr.toList=pre.flatten++(List.replicate n (Ej r)).flatten→
    ∃Kt,Instr.fill (fun i=>some (i*r.n,r.n)) arr vals=some Kt∧Kt.toList=pre.flatten++css.flatten
 |0,i,[],[],E,bx,G,d,rows,RI,d',h,hw,hd,hp,e=>by
  simp only[Zb,ANB,ASM]at e;obtain⟨rfl,rfl,rfl⟩:=e;refine⟨hd,AQQ _,rfl,E,[],[],HJ.refl h,rfl,rfl,by simp,fun pre arr _ _ ha=>⟨arr,rfl,by simp_all⟩⟩
 |n+1,i,(j,x)::l,(j',v)::m,E,bx,G,d,rows,RI,d',h,hw,hd,hp,e=>by
  obtain⟨⟨hj,hx⟩,hp⟩:=hp;simp only at hj hx;subst hj;simp only[Zb]at e;split at e
  case isFalse=>cases e
  rename_i hij;subst hij;simp only[ANU,AND,ASM]at e;obtain⟨⟨y1,kG,d1⟩,e1,⟨y2,bO,d2⟩,e2,rfl,rfl,rfl⟩:=e;dsimp only at e2⊢;obtain⟨a1,a2,E1,F1,k1,o1⟩:=wA h hw hd hx e1;have vk:=k1.le.keep (w:=w) (vw:=vw) h.st;obtain⟨b1,b2,b3,E2,Fs,css,k2,c1,c2,c3,c4⟩:=aN hg (G:=F1++G) k1.boxes (hw.oc k1) a1 (hp.imp fun _ _ q=>⟨q.1,PX vk q.2⟩) e2;obtain⟨A,W,o_,o1'⟩:=KY (d:=d'-1) (by omega) o1;refine⟨b1,ASY b2 a2,by simp[b3],_,A::Fs,v.cells.toList::css,HJ.more k1 k2 o_,by simp[c1],by simp[c2],fun k cs y G' q1 q2 q3=> ?_,fun pre arr xu hpn ha=> ?_⟩
  ·cases k with
   |zero=>
    simp at q1 q2 q3;subst q1 q2 q3;refine Eb (S:=fun b=>E1.S b∨b∈W) ?_ (fun _ _=>rfl) (fun _ _=>rfl) o1'
    intro c hc;exact hc.elim (fun h=> .inl (k2.le.S c h)) .inr
   |succ k=>
    refine Eb (S:=E2.S) ?_ (fun _ _=>rfl) (fun _ _=>rfl) (c3 k cs y G' (by simp_all) (by simp_all) (by simp_all))
    simp_all
  ·have hlen:v.cells.toList.length=r.n:=Yc o1
   have hpf:pre.flatten.length=i*r.n:=by
    clear ha c4
    subst xu;clear e1 e2
    induction pre with
    |nil=>simp
    |cons c pre ih=>grind
   have Va:(FM arr (i*r.n) v.cells.toList).toList=pre.flatten++v.cells.toList++(List.replicate n (Ej r)).flatten:=
    cr _ _ _ _ _ hpf ⟨Ej r,by rw[Gy,hlen],by grind⟩
   obtain⟨Kt,f1,f2⟩:=c4 (pre++[v.cells.toList]) (FM arr (i*r.n) v.cells.toList) (by simp[xu]) (by
    grind) (by simp_all)
   refine⟨Kt,?_,by simp_all⟩;rw[sa (i:=i) (off:=i*r.n) (size:=r.n) rfl (by omega) ?_]
   all_goals grind[List.length_append,HI,Gy,Nat.succ_mul]
 |n+1,i,[],[],E,bx,G,d,rows,RI,d',h,hw,hd,hp,e=>by
  simp only[Zb,AND,ASM]at e;obtain⟨⟨y2,bO,d2⟩,e2,rfl,rfl,rfl⟩:=e;obtain⟨b1,b2,b3,E2,Fs,css,k2,c1,c2,c3,c4⟩:=aN hg (G:=G) h hw hd (parts:=[]) (vals:=[]) trivial e2;refine⟨b1,b2,by simp[b3],E2,[]::Fs,Ej r::css,by simp_all,by simp[c1],by simp[c2],fun k cs y G' q1 q2 q3=> ?_,fun pre arr xu hpn ha=> ?_⟩
  ·grind[fD]
  ·obtain⟨Kt,f1,f2⟩:=c4 (pre++[Ej r]) arr (by simp[xu]) (by
    grind[Gy]) (by grind)
   simp_all
 |0,_,_::_,_,_,_,_,_,_,_,_,_,_,_,_,e=>by simp[Zb]at e
 |0,_,[],_::_,_,_,_,_,_,_,_,_,_,_,hp,_=>hp.elim
 |_+1,_,[],_::_,_,_,_,_,_,_,_,_,_,_,hp,_=>hp.elim
 |_+1,_,_::_,[],_,_,_,_,_,_,_,_,_,_,hp,_=>hp.elim
section
variable{Y:Type} {P:Program} {T:J8} (hT:Ei P T) {o:Oper} {E:Env} {σ:St} {a:Act} {w:World} {k:K Y} {y:Y}
include hT
theorem mj(h:Rel E σ a w){t n:Nat}{ps:Array (Nat×Operand)}(ho:o.op= .buildSlice t n ps)(e:Rz T t n (ps.toList.map fun q=>(q.1,σ.ev q.2)) σ k=some y):Lw P o E σ a w k y:=by
 unfold Rz at e;split at e
 case h_2=>cases e
 rename_i el hd;split at e
 case h_2=>cases e
 rename_i r hr;split at e
 case isFalse=>cases e
 rename_i hc;simp only[ANN,AOH]at hc;obtain⟨⟨Vb,hn⟩,hrn⟩:=hc;simp only[ANU]at e;obtain⟨⟨rows,RI,d'⟩,e1,e⟩:=e;dsimp only at e;obtain⟨el',ti,hu,Vr,hs,hby,hrow⟩:=K7 hT Vb;obtain⟨i,z,i1,i2,i3,i4,i5,hg⟩:=XZ hT Vr hrow;have APz:=ow h ps;obtain⟨b1,b2,b3,E',Fs,css,k2,c1,c2,c3,c4⟩:=aN hg h.bx (FP.refl _) (by omega) APz e1
 let zero:Array Value:=if n*r.n=0 then #[]else z.cells
 have hz:((Array.range (n*r.n)).map (fun j=>zero[j%zero.size]!)).toList=(List.replicate n (Ej r)).flatten:=by
  by_cases h0:n*r.n=0
  ·have h1:(List.replicate n (Ej r)).flatten=[]:=by
    rw[←AWK,HI,Gy,h0]
   rw[h1];simp[h0]
  ·have ea:Ej r≠[]:=by
    intro he;have:=Gy r;rw[he]at this;simp at this;rw[←this]at h0;simp at h0
   have:=Wx i5 n ea;rw[Gy]at this;simp only[zero,AM2 h0];exact this
 obtain⟨Kt,f1,f2⟩:=c4 [] _ rfl (by simp) (by rw[hz];simp);simp only[AU6,ARU]at f2
 let w':=w.alloc (.cells Kt el')
 have new:w'.heap[w.heap.size]? =some (.cells Kt el'):=by
  show(w.heap.push (.cells Kt el'))[w.heap.size]? =_
  simp
 obtain⟨d,rfl⟩:∃m,d' =m+1:=⟨d'-1,by omega⟩;have hl:∀c∈css,c.length=r.n:=by
  intro c hc;obtain⟨j,hj,rfl⟩:=ASe hc;exact Yc (c3 j _ _ _ (AM4 hj) (AM4 (by omega)) (AM4 (by omega)))
 have xO:css.flatten.length=n*r.n:=by
  rw[←c1];clear f2 c3 c4 c1
  induction css with
  |nil=>simp
  |cons c l ih=>simp[hl c (by simp),ih (fun c hc=>hl c (by simp[hc])),Nat.succ_mul];omega
 have AL6:Kt.size=n*r.n:=by rw[←AUs,f2,xO]
 obtain⟨Fs0,hB1,Yl⟩:=k2.boxes;simp only[AOC]at Yl;have how:Ow w' E'.S (d+1) (.sl r) [.slice (some ⟨w.heap.size,0,none⟩) rows.length n] rows (w.heap.size::Fs.flatten):=by
  refine dx (css:=css) (ex:=[]) new (by simpa using f2) (by omega) (by omega) (by omega) (XY _) (by omega) fun k cs y G q1 q2 q3=> ?_
  have Te:∀c∈G,c∈Fs.flatten:=fun c hc=>ASb.2 ⟨G,APx q3,hc⟩
  exact Eb (fun _ h=>h) (fun c hc=>JJ (Yl.dV c (Yl.st c hc))) (fun c hc=>JJ (Yl.lt c (by simp only[AOk];exact .inr (Te c hc)))) (by simpa using c3 k cs y G q1 q2 q3)
 rw[b3]at how;obtain⟨r1,r2,r3⟩:=UZ h k2 (w':=w') (d:=d+1) (by omega) how (by
   intro c hc;rcases ARi.1 hc with rfl|hc
   ·exact .inr (AQQ _)
   ·exact .inl hc) (by
   refine AVi.2 ⟨fun hc=> ?_,(AOj.1 Yl.nodup).2.1⟩;have:=Yl.lt w.heap.size (by simp only[AOk];exact .inr hc);omega) (by
   intro c hc;rcases ARi.1 hc with rfl|hc
   ·simp[w']
   ·have:=Yl.lt c (by simp only[AOk];exact .inr hc)
    simp[w'];omega) (fun c hc _=>JJ hc) ⟨rfl,rfl,rfl,by simp[w']⟩
 refine⟨_,_,_,_,_,.inl ?_,r1,r3,r2.any,rfl,e⟩;have Ym: ¬(n*r.n>2^24):=by
  have:n*r.n≤1024*1024:=Nat.mul_le_mul hn hrn;omega
 simp only[execOp,ho,Instr.buildSlice,Sem.run_bind,BV hu,Result.andThen_ok,sizeOf,typeInfo,run_program,i1,Sem.run_pure,i2,hs,Ym,AQS];by_cases h0:n*r.n=0
 ·have hz0:zero= #[]:=by simp only[zero,AM1 h0]
  rw[hz0]at f1;simp only[h0,ASi,Sem.run_bind,Sem.run_pure,Result.andThen_ok];rw[h0]at f1;simp only[f1,newRow,Sem.run_bind,run_newObj,Result.andThen_ok,Sem.run_pure];rfl
 ·have hz0:zero=z.cells:=by simp only[zero,AM2 h0]
  rw[hz0]at f1;simp only[h0,AQS,Sem.run_bind,zeroValue,typeInfo,run_program,Result.andThen_ok,i1,Sem.run_pure,i4];simp only[f1,newRow,Sem.run_bind,run_newObj,Result.andThen_ok,Sem.run_pure];rfl
end
end Go.Fw
end
section
namespace Go.Fw
theorem cE(w:World)(b o:Nat)(v:Value):(w.setCell ⟨b,o,none⟩ v).heap=w.heap.modify b fun
 | .cells c elem frozen=> .cells (c.setIfInBounds o v) elem frozen
 |o=>o:=rfl
theorem Fm:∀(vs:List Value) (o:Nat) (w:World) (b:Nat) (arr:Array Value) (ty:TypeId) (fr:ACT),w.heap[b]? =some (.cells arr ty fr)→
  (w.setCells b o vs).heap[b]? =some (.cells (FM arr o vs) ty fr)
 |[],_,_,_,_,_,_,h=>h
 |v::l,o,w,b,arr,ty,fr,h=>by
  simp only[World.setCells,FM];refine Fm l (o+1) _ b _ ty fr ?_
  rw[cE,Array.getElem?_modify,AM1 rfl,h];rfl
theorem Da:∀(vs:List Value) (o:Nat) (w:World) (b:Nat),(w.setCells b o vs).heap.size=w.heap.size
 |[],_,_,_=>rfl
 |v::l,o,w,b=>by
  simp only[World.setCells];rw[Da l,cE,Array.size_modify]
theorem DR:∀(vs:List Value) (o:Nat) (w:World) (b c:Nat),c≠b→(w.setCells b o vs).heap[c]? =w.heap[c]?
 |[],_,_,_,_,_=>rfl
 |v::l,o,w,b,c,h=>by
  simp only[World.setCells];rw[DR l _ _ _ _ h,cE,Array.getElem?_modify,AM2 (fun e=>h e.symm)]
theorem B9:∀(vs:List Value) (o:Nat) (w:World) (b:Nat),Grown w (w.setCells b o vs)
 |[],_,_,_=>⟨rfl,rfl,rfl,AQQ _⟩
 |v::l,o,w,b=>by
  have:=B9 l (o+1) (w.setCell ⟨b,o,none⟩ v) b;refine⟨this.os,this.tape,this.output,?_⟩;rw[Da];omega
theorem XF{arr:Array Value}:∀{l:List Value} {o j:Nat},o+l.length≤arr.size→(FM arr o l)[j]? =if o≤j∧j<o+l.length then l[j-o]? else arr[j]?:=by
 intro l
 induction l generalizing arr with
 |nil=>intro o j _;rw[AM2 (fun hh=>by grind)];rfl
 |cons c l ih=>
  intro o j h;simp only[AOX]at h;simp only[FM];grind
theorem LJ{w:World}{b o:Nat}{arr:Array Value}{ty:TypeId}{fr:ACT}(h:w.heap[b]? =some (.cells arr ty fr)):w.cell? ⟨b,o,none⟩=arr[o]?:=by
 simp[World.cell?,h]
theorem Oe{w:World}{b o:Nat}{vs:List Value}{arr:Array Value}{ty:TypeId}{fr:ACT}(h:w.heap[b]? =some (.cells arr ty fr))(hs:o+vs.length≤arr.size):BX (w.setCells b o vs) b o vs:=by
 intro j v hj;have hl:=(ANF.1 hj).1;rw[LJ (Fm vs o w b arr ty fr h),XF hs,AM1 (by omega),show o+j-o=j by omega,hj]
theorem U0{w:World}{b b' o o':Nat}{vs cs:List Value}{arr:Array Value}{ty:TypeId}{fr:ACT}(hc:BX w b' o' cs)(h:w.heap[b]? =some (.cells arr ty fr))(hs:o+vs.length≤arr.size)
  (ha:b'≠b∨o'+cs.length≤o∨o+vs.length≤o'):BX (w.setCells b o vs) b' o' cs:=by
 intro j v hj;have hl:=(ANF.1 hj).1;by_cases hb:b' =b
 ·subst hb
  have:=hc j v hj;rw[LJ h]at this;rw[LJ (Fm vs o w b' arr ty fr h),XF hs,AM2 (by omega),this]
 ·rw[World.cell?_of_block (a:=⟨b',o'+j,none⟩) (DR vs o w b b' hb)]
  exact hc j v hj
theorem Vg{w:World}{b o n k:Nat}{arr:Array Value}{ty:TypeId}{fr:ACT}(h:w.heap[b]? =some (.cells arr ty fr))(hs:o+n≤arr.size)(hu:vL fr (arr.size+k)):w.there b o n:=by
 intro j hj;refine⟨?_,?_⟩
 ·rw[LJ h]
  grind
 ·have:=hu (o+j) (by omega)
  grind[World.frozen?]
theorem lk{w:World}{S:Nat→Prop}:∀{r:Ty} {d:Nat} {cs:List Value} {y:r.D} {F:ABG},Ow w S d r cs y F→ ∀v∈cs,v.oneCell' =true
 | .int _,_,_,_,_,h,v,hv=>by simp only[Ow]at h;rw[h.1]at hv;simp at hv;subst hv;rfl
 | .bool,_,_,_,_,h,v,hv=>by simp only[Ow]at h;rw[h.1]at hv;simp at hv;subst hv;rfl
 | .str,_,_,_,_,h,v,hv=>by simp only[Ow]at h;rw[h.1]at hv;simp at hv;subst hv;rfl
 | .unit,_,_,_,_,h,v,hv=>by grind[Ow]
 | .sl _,0,_,_,_,h,v,hv=>by
  simp only[Ow,Rd]at h;obtain⟨⟨_,_,rfl,_⟩,_⟩:=h;simp at hv;subst hv;rfl
 | .sl _,_+1,_,_,_,h,v,hv=>by
  simp only[Ow]at h;obtain⟨_,_,rfl,_⟩:=h;simp at hv;subst hv;rfl
 | .cons _ _,_,_,_,_,h,v,hv=>by
  simp only[Ow]at h;obtain⟨u,l,F1,F2,rfl,_,h1,h2⟩:=h;rcases ARi.1 hv with rfl|hv
  ·exact lk h1 _ (by simp)
  ·exact lk h2 _ hv
section
variable{P:Program} {w:World}
structure kN (P:Program) (w:World) (size n:Nat) (x:Value) (news:List Value):Prop where
 len:∀w',(Builtin.lenOf x).run P w' = .ok n w'
 cells:∀w',w'.heap=w.heap→(Builtin.firstCells size n x).run P w' = .ok news.toArray w'
theorem gC{ts:Array TypeId}{t u ty e:TypeId}(wY:ts[0]? =some t)(wm:ts[1]? =some u){i:TypeInfo}{size:Nat}(ht:P.underlying t=some (.slice e))(hu:(∃e,P.underlying u=some (.slice e))∨P.underlying u=some .string)(hi:P.info? e=some i)(P5:i.size=size)
  {b o WA j_ n:Nat} {x:Value} {news:List Value} (hn:kN P w size n x news) (Ts:WA+n≤j_) (oq:w.there b (o+WA*size) news.length) (h1:∀v∈news,v.oneCell' =true):
  (Builtin.append_ ts ty #[.slice (some ⟨b,o,none⟩) WA j_,x]).run P w= .ok (.slice (some ⟨b,o,none⟩) (WA+n) j_) (w.setCells b (o+WA*size) news):=by
 subst P5;have rA:=run_storeCells_cells (P:=P) b (o+WA*i.size) news 0 w (fun j hj=>by simpa using(oq j hj).1) (fun j hj=>by simpa using(oq j hj).2) h1;simp only[ATG]at rA;have hl:=hn.len w;have hf:=hn.cells w rfl;rcases hu with⟨e',hu⟩|hu
 ·simp[Builtin.append_,wY,wm,run_underlying ht,run_underlying hu,sizeOf,typeInfo,hi,hl,Ts,hf,Addr.add_eq,rA]
 ·simp[Builtin.append_,wY,wm,run_underlying ht,run_underlying hu,sizeOf,typeInfo,hi,hl,Ts,hf,Addr.add_eq,rA]
theorem nr{ts:Array TypeId}{t u ty e:TypeId}(wY:ts[0]? =some t)(wm:ts[1]? =some u){i:TypeInfo}{size:Nat}(ht:P.underlying t=some (.slice e))(hu:(∃e,P.underlying u=some (.slice e))∨P.underlying u=some .string)(hi:P.info? e=some i)(P5:i.size=size)
  {a:Option Addr} {x:Value} (hn:kN P w size 0 x []):
  (Builtin.append_ ts ty #[.slice a 0 0,x]).run P w= .ok (.slice a 0 0) w:=by
 subst P5;have hl:=hn.len w;have hf:=hn.cells w rfl;cases a with
 |none=>
  rcases hu with⟨e',hu⟩|hu
  ·simp[Builtin.append_,wY,wm,run_underlying ht,run_underlying hu,sizeOf,typeInfo,hi,hl,hf]
  ·simp[Builtin.append_,wY,wm,run_underlying ht,run_underlying hu,sizeOf,typeInfo,hi,hl,hf]
 |some a=>
  have rA:(storeCells (a.add (0*i.size)) [] 0).run P w= .ok () w:=rfl;rcases hu with⟨e',hu⟩|hu
  ·simp[Builtin.append_,wY,wm,run_underlying ht,run_underlying hu,sizeOf,typeInfo,hi,hl,hf,storeCells]
  ·simp[Builtin.append_,wY,wm,run_underlying ht,run_underlying hu,sizeOf,typeInfo,hi,hl,hf,storeCells]
theorem cv{ts:Array TypeId}{t u ty e:TypeId}(wY:ts[0]? =some t)(wm:ts[1]? =some u){i:TypeInfo}{z:Value}{size:Nat}(ht:P.underlying t=some (.slice e))(hu:(∃e,P.underlying u=some (.slice e))∨P.underlying u=some .string)(hi:P.info? e=some i)(hz:i.zero=some z)(P5:i.size=size)
  {a:Option Addr} {WA j_ n:Nat} {x:Value} {AT5 news:List Value} (ho:∀w',w'.heap=w.heap→(Builtin.firstCells size WA (.slice a WA j_)).run P w' = .ok AT5.toArray w')
  (hn:kN P w size n x news) (AVr:j_<WA+n) (h63:WA+n≤C7) (hby:i.bytes≤512):
  (Builtin.append_ ts ty #[.slice a WA j_,x]).run P w= .ok (.slice (some ⟨w.heap.size,0,none⟩) (WA+n) (grownCap w (WA+n) j_ e))
   (w.drew.alloc (.cells (AT5.toArray++news.toArray++Builtin.zeroCells z.cells (grownCap w (WA+n) j_ e-(WA+n))) e)):=by
 subst P5;have hl:=hn.len w;have hf:=hn.cells w.drew rfl;have hfo:=ho w.drew rfl;have hno: ¬(WA+n≤j_):=by omega
 have hb:(WA+n)*i.bytes≤140737488355328:=by
  have:(WA+n)*i.bytes≤C7*512:=Nat.mul_le_mul h63 hby;grind[C7]
 have h48:=growslice_fits AVr hb;have AT2: ¬(281474976710656<Builtin.nextslicecap (WA+n) j_*i.bytes):=by omega
 have AVf: ¬(9223372036854775807<((WA:Int)+(n:Int))):=by grind[C7]
 rcases hu with⟨e',hu⟩|hu
 ·simp[Builtin.append_,wY,wm,run_underlying ht,run_underlying hu,sizeOf,typeInfo,zeroValue,hi,hz,hl,hno,AVf,AT2,Question.forced,hf,hfo,newRow,grownCap]
  grind
 ·simp[Builtin.append_,wY,wm,run_underlying ht,run_underlying hu,sizeOf,typeInfo,zeroValue,hi,hz,hl,hno,AVf,AT2,Question.forced,hf,hfo,newRow,grownCap]
  grind
end
end Go.Fw
end
section
namespace Go.Fw
def FN(w:World)(S:Nat→Prop)(d:Nat)(r:Ty)(css:List (List Value))(rows:List r.D)(Fs:List ABG):Prop:=
 css.length=rows.length∧Fs.length=rows.length∧(∀c∈css,c.length=r.n)∧ ∀(i:Nat) cs y G,css[i]? =some cs→rows[i]? =some y→Fs[i]? =some G→Ow w S d r cs y G
theorem FN.mono{w w':World}{S S':Nat→Prop}{d:Nat}{r:Ty}{css:List (List Value)}{rows:List r.D}{Fs:List ABG}(h:FN w S d r css rows Fs)(hS:∀c,S c→S' c)(hw:∀c,S c→w'.heap[c]? =w.heap[c]?)
  (hF:∀c∈Fs.flatten,w'.heap[c]? =w.heap[c]?):FN w' S' d r css rows Fs:=
 ⟨h.1,h.2.1,h.2.2.1,fun i cs y G a b c=>Eb hS hw (fun x hx=>hF x (ASb.2 ⟨G,APx c,hx⟩)) (h.2.2.2 i cs y G a b c)⟩
theorem FN.append{w:World}{S:Nat→Prop}{d:Nat}{r:Ty}{css AWf:List (List Value)}{rows C0:List r.D}{Fs Fs':List ABG}(h:FN w S d r css rows Fs)(k:FN w S d r AWf C0 Fs'):
  FN w S d r (css++AWf) (rows++C0) (Fs++Fs'):=by
 refine⟨by simp[h.1,k.1],by simp[h.2.1,k.2.1],fun c hc=>(AOk.1 hc).elim (h.2.2.1 c) (k.2.2.1 c),fun i cs y G a b c=> ?_⟩;by_cases hi:i<rows.length
 ·rw[AOw (by rw[h.1];omega)]at a
  rw[AOw hi]at b;rw[AOw (by rw[h.2.1];omega)]at c;exact h.2.2.2 i cs y G a b c
 ·rw[AP3 (by rw[h.1];omega)]at a
  rw[AP3 (by omega)]at b;rw[AP3 (by rw[h.2.1];omega)]at c;rw[h.1]at a;rw[h.2.1]at c;exact k.2.2.2 _ cs y G a b c
theorem FN.weaken{w:World}{S:Nat→Prop}{d d':Nat}{r:Ty}{css:List (List Value)}{rows:List r.D}{Fs:List ABG}(h:FN w S d r css rows Fs)(hd:d'≤d):
  ∃(Gs:List ABG) (W:ABG),Fs.flatten.Perm (Gs.flatten++W)∧FN w (fun c=>S c∨c∈W) d' r css rows Gs:=by
 obtain⟨Gs,Ws,h1,h2,h3,h4⟩:=qu (R:=fun i G F W=> ∀cs y,css[i]? =some cs→rows[i]? =some y→Ow w (fun c=>S c∨c∈W) d' r cs y F) Fs 0 (fun i G hG=>by
  rw[AS7];have hi:=(ANF.1 hG).1;have h1:=h.1;have h2:=h.2.1;obtain⟨F,W,hp,ho⟩:=KY hd (h.2.2.2 i _ _ G (AM4 (by omega)) (AM4 (by omega)) hG);grind)
 refine⟨Gs,Ws.flatten,h3,h.1,h1.trans h.2.1,h.2.2.1,fun i cs y G a b c=> ?_⟩;have hi:=(ANF.1 c).1;have hw:Ws[i]? =some (Ws[i]'(by omega)):=AM4 _;have hf:Fs[i]? =some (Fs[i]'(by omega)):=AM4 _;have:=h4 i _ _ _ hf c hw cs y (by simp_all) (by simp_all);exact Eb (fun x hx=>hx.imp id fun hx=>ASb.2 ⟨_,APx hw,hx⟩) (fun _ _=>rfl) (fun _ _=>rfl) this
theorem IC{n:Nat}:∀{css:List (List Value)},(∀c∈css,c.length=n)→css.flatten.length=css.length*n
 |[],_=>by simp
 |c::l,h=>by simp[h c (by simp),IC (css:=l) (fun c hc=>h c (by simp[hc])),Nat.succ_mul];omega
theorem FN.one{w:World}{S:Nat→Prop}{d:Nat}{r:Ty}{css:List (List Value)}{rows:List r.D}{Fs:List ABG}(h:FN w S d r css rows Fs):∀v∈css.flatten,v.oneCell' =true:=by
 intro v hv;obtain⟨c,hc,hv⟩:=ASb.1 hv;obtain⟨i,hi,rfl⟩:=ASe hc;have h1:=h.1;have h2:=h.2.1;exact lk (h.2.2.2 i _ _ _ (AM4 hi) (AM4 (by omega)) (AM4 (by omega))) v hv
theorem FN.flat{w:World}{B S:Nat→Prop}{d:Nat}{r:Ty}(hf:r.flat=true){css:List (List Value)}{rows:List r.D}(h1:css.length=rows.length)(h2:∀c∈css,c.length=r.n)
  (h3:∀(i:Nat) cs y,css[i]? =some cs→rows[i]? =some y→Rd w B r cs y):FN w S d r css rows (List.replicate rows.length []):=by
 refine⟨h1,by simp,h2,fun i cs y G a b c=> ?_⟩;grind[List.mem_of_getElem?,js]
theorem BX.heap{w w':World}{b o:Nat}{cs:List Value}(h:BX w b o cs)(e:w'.heap=w.heap):BX w' b o cs:=h.of_block (by rw[e])
theorem Q3{P:Program}{w:World}{a:Option Addr}{n cap size:Nat}{css:List (List Value)}(hl:css.length=n)(hc:∀c∈css,c.length=size)
  (h:n=0∨ ∃b o,a=some ⟨b,o,none⟩∧BX w b o css.flatten):kN P w size n (.slice a n cap) css.flatten:=by
 refine⟨fun w' =>rfl,fun w' e=> ?_⟩;have hlen:css.flatten.length=n*size:=by rw[IC hc,hl]
 rcases h with rfl|⟨b,o,rfl,h⟩
 ·have:css=[]:=ARO hl
  subst this;cases a with
  |none=>rfl
  |some a=>
   simp only[Builtin.firstCells,Nat.zero_mul,AU6];rfl
 ·simp only[Builtin.firstCells]
  rw[←hlen];exact MQ (h.heap e)
theorem AEU{P:Program}{w:World}{s:AB_}:kN P w 1 s.length (.string ⟨s.toArray⟩) (s.map fun c=>[Value.int .u8 (c.toNat:Int)]).flatten:=by
 refine⟨fun w' =>rfl,fun w' _=> ?_⟩;have P5:(⟨s.toArray⟩:ByteArray).size=s.length:=by rfl
 have e1:(⟨s.toArray⟩:ByteArray).extract 0 s.length=⟨s.toArray⟩:=by
  rw[←P5];apply ByteArray.ext;simp
 simp only[Builtin.firstCells,e1,Sem.run_pure];have:(s.map fun c=>[Value.int .u8 (c.toNat:Int)]).flatten=s.map fun c=>Value.int .u8 (c.toNat:Int):=by
  have:=YZ (l:=s.map fun c=>Value.int .u8 (c.toNat:Int));grind[List.map_map,Function.comp_def]
 simp_all
theorem nw{w:World}{S:Nat→Prop}{d:Nat}{r:Ty}{v:Value}{rows:List r.D}{F:ABG}(h:Ow w S (d+1) (.sl r) [v] rows F):
  ∃a cap css Fs R,v= .slice a rows.length cap∧rows.length≤cap∧FN w S d r css rows Fs∧F.Perm (Fs.flatten++R)∧
   ((cap=0∧F=[])∨ ∃b o arr ty fr,a=some ⟨b,o,none⟩∧w.heap[b]? =some (.cells arr ty fr)∧o+cap*r.n≤arr.size∧vL fr (arr.size+mk r)∧F=b::Fs.flatten∧BX w b o css.flatten):=by
 simp only[Ow]at h;obtain⟨a,cap,e,hle,h⟩:=h;simp only[AR6,ASq]at e;subst e;rcases h with⟨h,rfl⟩|⟨b,o,arr,ty,fr,Fs,rfl,hb,P5,hu,rfl,hFl,hr⟩
 ·have:rows=[]:=ARO (by omega)
  subst this;exact⟨a,cap,[],[],[],rfl,hle,⟨rfl,rfl,by simp,fun i cs y G h=>by simp at h⟩,by simp,.inl ⟨h,rfl⟩⟩
 ·
  have key:∀(n o:Nat) (ys:List r.D) (Fs:List ABG),ys.length=n→Fs.length=n→(∀(i:Nat) (y:r.D) (G:ABG),ys[i]? =some y→Fs[i]? =some G→ ∃cs,cs.length=r.n∧BX w b (o+i*r.n) cs∧Ow w S d r cs y G)→
    ∃css,FN w S d r css ys Fs∧BX w b o css.flatten:=by
   intro n
   induction n with
   |zero=>
    intro o ys Fs h1 h2 _;obtain rfl:=ARO h1;obtain rfl:=ARO h2;exact⟨[],⟨rfl,rfl,by simp,fun i cs y G h=>by simp at h⟩,fun _ _ h=>by simp at h⟩
   |succ n ih=>
    intro o ys Fs h1 h2 hh;obtain⟨y,ys,rfl⟩:=AV0 h1;obtain⟨G,Fs,rfl⟩:=AV0 h2;obtain⟨cs,c1,c2,c3⟩:=hh 0 y G rfl rfl;obtain⟨css,d1,d2⟩:=ih (o+r.n) ys Fs (by simp_all) (by simp_all) (fun i z G hz hG=>by
     obtain⟨cs,e1,e2,e3⟩:=hh (i+1) z G (by simp_all) (by simp_all);grind)
    refine⟨cs::css,⟨by simp[d1.1],by omega,fun c hc=> ?_,fun i eD y' G' a b c=> ?_⟩,?_⟩
    ·rcases ARi.1 hc with rfl|hc
     ·omega
     ·exact d1.2.2.1 c hc
    ·cases i with
     |zero=>simp_all
     |succ i=>exact d1.2.2.2 i eD y' G' (by simp_all) (by simp_all) (by simp_all)
    grind[List.flatten_cons,BX.append]
  obtain⟨css,k1,k2⟩:=key rows.length o rows Fs rfl hFl hr;refine⟨_,cap,css,Fs,[b],rfl,hle,k1,?_,.inr ⟨b,o,arr,ty,fr,rfl,hb,P5,hu,rfl,k2⟩⟩;grind
theorem lp{w:World}{S:Nat→Prop}:∀{r:Ty} {cs:List Value} {x:r.D},Rd w S r cs x→Ow w S 0 r cs x []
 | .cons c r,cs,x,hr=>by
  simp only[Rd]at hr;obtain⟨v,l,rfl,h1,h2⟩:=hr;simp only[Ow];exact⟨v,l,[],[],rfl,rfl,lp h1,lp h2⟩
 | .unit,_,_,hr=>by grind[Rd,Ow]
 | .int k,_,_,hr=>by grind[Rd,Ow]
 | .bool,_,_,hr=>by grind[Rd,Ow]
 | .str,_,_,hr=>by grind[Rd,Ow]
 | .sl q,_,_,hr=>by simp only[Ow];simp_all
theorem fu{P:Program}{E:Env}{w:World}{vw bx:List Bx}{G:ABG}(h:C8 E w vw bx G)(hw:FP bx vw){x:AV}{v:Value}(hv:VR E w vw x v){r:Ty}{rows:List r.D}{RI:List Bx}{d:Nat}
  (e:n_ bx x=some ⟨r,rows,RI,d⟩):1≤d∧ ∃E' F css Fs R,HJ E w vw bx G E' RI F∧F.Perm (List.flatten Fs++R)∧FN w E'.S (d-1) r css rows Fs∧kN P w r.n rows.length v css.flatten:=by
 have plain:∀{B:Nat→Prop} {ys:List r.D},r.flat=true→Rd w B (.sl r) [v] ys→ ∀S:Nat→Prop,∃css,FN w S 8 r css ys (List.replicate ys.length [])∧kN P w r.n ys.length v css.flatten:=by
  intro B ys hf hr S;simp only[Rd]at hr;obtain⟨a,cap,e1,hle,hr⟩:=hr;simp only[AR6,ASq]at e1;subst e1;rcases hr with hr|⟨b,o,rfl,_,hr⟩
  ·have:ys=[]:=ARO hr
   subst this;exact⟨[],⟨rfl,rfl,by simp,fun i cs y G h=>by simp at h⟩,Q3 (css:=[]) rfl (by simp) (.inl rfl)⟩
  ·obtain⟨css,c1,c2,c3,c4⟩:=pD hr
   exact⟨css,FN.flat hf c1 c2 c4,Q3 c1 c2 (.inr ⟨b,o,rfl,c3⟩)⟩
 have done:∀{B:Nat→Prop} {ys:List r.D},r.flat=true→Rd w B (.sl r) [v] ys→rows=ys→RI=bx→d=9→
   1≤d∧ ∃E' F css Fs R,HJ E w vw bx G E' RI F∧F.Perm (List.flatten Fs++R)∧FN w E'.S (d-1) r css rows Fs∧kN P w r.n rows.length v css.flatten:=by
  intro B ys hf hr e1 e2 e3;subst e1 e2 e3;obtain⟨css,k1,k2⟩:=plain hf hr E.S;exact⟨by omega,E,[],css,_,[],HJ.refl h,by simp,k1,k2⟩
 unfold n_ at e;split at e
 ·rename_i s
  simp only[ANB,AOQ]at e;obtain⟨rfl,e⟩:=e;have e:=ASX e;simp only[ASM]at e;obtain⟨rfl,rfl,rfl⟩:=e;have ZL:=YA hv;subst ZL;refine⟨by omega,E,[],s.map fun c=>[Value.int .u8 (c.toNat:Int)],_,[],HJ.refl h,?_,FN.flat (B:=fun _=>False) rfl (by simp) (by simp[Ty.n]) (fun i cs y a b=> ?_),?_⟩
  ·simp
  ·simp only[ASa,AND]at a b
   obtain⟨c1,z1,rfl⟩:=a;obtain⟨c2,z2,rfl⟩:=b;grind[Rd]
  grind[AEU,Ty.n]
 ·rename_i s q ys
  split at e
  ·rename_i hf
   simp only[ANB,AOQ]at e;obtain⟨rfl,e⟩:=e;have e:=ASX e;simp only[ASM]at e;obtain⟨rfl,rfl,rfl⟩:=e;exact done hf hv rfl rfl rfl
  ·split at e
   case isFalse=>cases e
   rename_i hs;simp only[ANB,AOQ]at e;obtain⟨rfl,e⟩:=e;have e:=ASX e;simp only[ASM]at e;obtain⟨rfl,rfl,rfl⟩:=e;subst hs;simp only[VR,ASi]at hv;simp only[Rd]at hv;obtain⟨a,cap,e1,hle,hr⟩:=hv;simp only[AR6,ASq]at e1;subst e1;have key:∃css:List (List Value),List.length css=ys.length∧(∀c∈css,c.length=q.n)∧(∀(i:Nat) cs y,css[i]? =some cs→ys[i]? =some y→Rd w E.S q cs y)∧kN P w q.n ys.length (.slice a ys.length cap) css.flatten:=by
    rcases hr with hr|⟨b,o,rfl,_,hr⟩
    ·have:ys=[]:=ARO hr
     subst this;exact⟨[],rfl,by simp,fun i cs y h=>by simp at h,Q3 (css:=[]) rfl (by simp) (.inl rfl)⟩
    ·obtain⟨css,c1,c2,c3,c4⟩:=pD hr
     exact⟨css,c1,c2,c4,Q3 c1 c2 (.inr ⟨b,o,rfl,c3⟩)⟩
   obtain⟨css,c1,c2,c3,c4⟩:=key;refine⟨AQQ _,E,[],css,List.replicate ys.length [],[],HJ.refl h,by simp,⟨c1,by simp,c2,fun i cs y G a b c=> ?_⟩,c4⟩;grind[List.mem_of_getElem?,lp]
 ·rename_i b
  split at e
  case h_2=>cases e
  rename_i d0 q ys hb;split at e
  ·rename_i hf
   simp only[ANB,AOQ]at e;obtain⟨rfl,e⟩:=e;have e:=ASX e;simp only[ASM]at e;obtain⟨rfl,rfl,rfl⟩:=e;obtain⟨Fs,hB,hS⟩:=h;exact done hf (ah hw hB hS.st hv (q:=q) (ys:=ys) (by simp[N5,hb,HE])) rfl rfl rfl
  ·simp only[ANB,AOQ]at e
   obtain⟨rfl,e⟩:=e;have e:=ASX e;simp only[ASM]at e;obtain⟨rfl,rfl,rfl⟩:=e;obtain⟨F,⟨hd,ho⟩,hB⟩:=h.take hb;have hvw:=ZX hw hb;simp only[VR,hvw,DA,ANB]at hv;obtain⟨_,_,_,rfl⟩:=hv;obtain⟨m,rfl⟩:∃m,d0=m+1:=⟨d0-1,by omega⟩;obtain⟨a,cap,css,Fs,R,e1,hle,cc,hp,hcase⟩:=nw ho;refine⟨hd,E,F,css,Fs,R,⟨Le.refl _,by simp,fun n B hn=> ?_,hB⟩,hp,cc,?_⟩
   ·grind
   ·rw[e1]
    refine Q3 cc.1 cc.2.2.1 ?_
    grind
 ·rename_i b p _
  split at e
  case h_2=>cases e
  rename_i d0 q ys hb;simp only[ANU]at e;obtain⟨⟨q',zs⟩,e1,e⟩:=e;dsimp only at e;split at e
  case isFalse=>cases e
  rename_i hf;simp only[ANB,AOQ]at e;obtain⟨rfl,e⟩:=e;have e:=ASX e;simp only[ASM]at e;obtain⟨rfl,rfl,rfl⟩:=e;obtain⟨Fs,hB,hS⟩:=h;exact done hf (ah hw hB hS.st hv (q:=q') (ys:=zs) (by simp[N5,hb,e1])) rfl rfl rfl
 ·rename_i b p off n
  split at e
  case h_2=>cases e
  rename_i d0 q ys hb;simp only[ANU]at e;obtain⟨⟨q',zs⟩,e1,e⟩:=e;dsimp only at e;split at e
  case isFalse=>cases e
  rename_i hf;simp only[ANB,AOQ]at e;obtain⟨rfl,e⟩:=e;have e:=ASX e;simp only[ASM]at e;obtain⟨rfl,rfl,rfl⟩:=e;obtain⟨Fs,hB,hS⟩:=h;exact done hf (ah hw hB hS.st hv (q:=q') (ys:=(zs.drop off).take n) (by simp[N5,hb,e1])) rfl rfl rfl
 simp_all
theorem gJ{E:Env}{w:World}{vw bx:List Bx}{G:ABG}(h:C8 E w vw bx G)(hw:FP bx vw){x:AV}{v:Value}(hv:VR E w vw x v){r:Ty}{rows:List r.D}{RI:List Bx}{d:Nat}
  (e:nv bx x=some ⟨r,rows,RI,d⟩):1≤d∧ ∃F1 F2,HJ E w vw bx G E RI (F1++F2)∧Ow w E.S d (.sl r) [v] rows F1:=by
 have tk:∀{b d0:Nat} {q:Ty} {ys:List q.D},bx[b]? =some (.sl d0 q ys)→ ∃F,1≤d0∧Ow w E.S d0 (.sl q) [E.IF b] ys F∧HJ E w vw bx G E (bx.set b .dead) F:=by
  intro b d0 q ys hb;obtain⟨F,⟨hd,ho⟩,hB⟩:=h.take hb;refine⟨F,hd,ho,⟨Le.refl _,by simp,fun n B hn=> ?_,hB⟩⟩;grind
 unfold nv at e;split at e
 ·rename_i b
  split at e
  case h_2=>cases e
  rename_i d0 q ys hb;simp only[ANB,AOQ]at e;obtain⟨rfl,e⟩:=e;have e:=ASX e;simp only[ASM]at e;obtain⟨rfl,rfl,rfl⟩:=e;obtain⟨F,hd,ho,hT⟩:=tk hb;have hvw:=ZX hw hb;simp only[VR,hvw,DA,ANB]at hv;obtain⟨_,_,_,rfl⟩:=hv;exact⟨hd,F,[],by simp_all,ho⟩
 ·rename_i b off n
  split at e
  case h_2=>cases e
  rename_i d0 q ys hb;simp only[ANB,AOQ]at e;obtain⟨rfl,e⟩:=e;have e:=ASX e;simp only[ASM]at e;obtain⟨rfl,rfl,rfl⟩:=e;obtain⟨F,hd,ho,hT⟩:=tk hb;have hvw:=ZX hw hb;simp only[VR,hvw,DA,ANB]at hv;obtain⟨_,_,q',zs,a,len,cap,h1,h2,h3,rfl⟩:=hv;simp only[HE,ANB,AOQ]at h1;obtain⟨rfl,h1⟩:=h1;obtain rfl:=ASX h1;rw[h3]at ho;obtain⟨m,rfl⟩:∃m,d0=m+1:=⟨d0-1,by omega⟩;obtain⟨F1,F2,hp,xK⟩:=AC3 ho h2;exact⟨hd,F1,F2,⟨hT.le,hT.len,hT.within,hT.boxes.perm (ATl _ hp)⟩,xK⟩
 simp_all
end Go.Fw
end
section
namespace Go.Fw
theorem gK{P:Program}{w:World}{a:Option Addr}{n cap size:Nat}{css:List (List Value)}(hl:css.length=n)(hc:∀c∈css,c.length=size)
  (h:n=0∨ ∃b o,a=some ⟨b,o,none⟩∧BX w b o css.flatten):∀w',w'.heap=w.heap→(Builtin.firstCells size n (.slice a n cap)).run P w' = .ok css.flatten.toArray w':=
 (Q3 (P:=P) (cap:=cap) hl hc h).cells
theorem aR{z:Array Value}{n:Nat}:(Builtin.zeroCells z n).size=n*z.size:=size_zeroCells z n
section
variable{Y:Type} {P:Program} {T:J8} (hT:Ei P T) {o:Oper} {E:Env} {σ:St} {a:Act} {w:World} {k:K Y} {y:Y}
include hT
theorem mS(h:Rel E σ a w){E2:Env}{bO:List Bx}{F Fd R:ABG}{t u ty:TypeId}{ts:Array TypeId}(wY:ts[0]? =some t)(wm:ts[1]? =some u)
  (hu:(∃e,P.underlying u=some (.slice e))∨P.underlying u=some .string) {m:Nat} {r:Ty} (Vb:T.Nv t r=true)
  (kT:HJ E w σ.bx σ.bx [] E2 bO F) {v1 v2:Value} {drows TL:List r.D} {css:List (List Value)} {Fs:List ABG}
  (ho:Ow w E2.S (m+1) (.sl r) [v1] drows Fd) (hs:FN w E2.S m r css TL Fs) (hn:kN P w r.n TL.length v2 css.flatten) (hp:F.Perm (Fd++Fs.flatten++R)) (Ym:drows.length+TL.length≤C7):
  ∃v w' E',(Builtin.append_ ts ty #[v1,v2]).run P w= .ok v w'∧Rel E' { σ with bx:=bO++[.sl (m+1) r (drows++TL)] } a w'∧SD [] E σ.bx w E' (bO++[.sl (m+1) r (drows++TL)]) w'∧
   XR E' w' (bO++[.sl (m+1) r (drows++TL)]) (.c (.ref bO.length [])) v:=by
 obtain⟨e,ti,hut,Vr,hs1,hby,hrow⟩:=K7 hT Vb;obtain⟨i,z,i1,i2,i3,i4,i5,hg⟩:=XZ hT Vr hrow;rw[hs1]at i2;obtain⟨Fs0,hB1,Yl⟩:=kT.boxes;simp only[AOC]at Yl;have hdF:∀c∈Fd,c∈F:=fun c hc=>hp.mem_iff.2 (by simp[hc])
 have hsF:∀c∈Fs.flatten,c∈F:=fun c hc=>hp.mem_iff.2 (by simp_all)
 have ndF:=(AOj.1 (hp.nodup_iff.1 (AOj.1 Yl.nodup).2.1)).1;have ltF:∀c∈F,c<w.heap.size:=fun c hc=>Yl.lt c (by simp_all)
 have Acv:∀c∈F,¬E2.S c:=fun c hc hS=>Yl.free c (by simp_all) (Yl.st c hS)
 have ho0:=ho;obtain⟨ad,cap,dcss,Fs1,R1,rfl,hle,hd,hp1,hcase⟩:=nw ho;have Zi:css.flatten.length=TL.length*r.n:=by rw[IC hs.2.2.1,hs.1]
 have yd:dcss.flatten.length=drows.length*r.n:=by rw[IC hd.2.2.1,hd.1]
 by_cases Ts:drows.length+TL.length≤cap
 ·rcases hcase with⟨h0,hF0⟩|⟨b,of,arr,ty0,fr,rfl,hb,P5,hunf,rfl,hc⟩
  ·
   have hd0:drows=[]:=ARO (by omega);have hs0:TL=[]:=ARO (by omega);subst hd0 hs0;have hc0:css=[]:=ARO hs.1;subst hc0 h0;have kZ:=nr (P:=P) (w:=w) (ty:=ty) wY wm hut hu i1 i2 (a:=ad) (x:=v2) (by simp_all);obtain⟨r1,r2,r3⟩:=UZ h kT (w':=w) (d:=m+1) (by omega) ho0 (fun c hc=> .inl (hdF c hc)) (AOj.1 ndF).1 (fun c hc=>ltF c (hdF c hc)) (fun _ _ _=>rfl) ⟨rfl,rfl,rfl,AQQ _⟩;grind
  ·
   have dv:of+drows.length*r.n+css.flatten.length≤arr.size:=by
    have:(drows.length+TL.length)*r.n≤cap*r.n:=APC _ Ts;grind
   have kZ:=gC (P:=P) (w:=w) (ty:=ty) wY wm hut hu i1 i2 (b:=b) (o:=of) hn Ts (Vg hb dv hunf) hs.one;have hbF:b∈F:=hdF b (by simp);have ea:∀c,c∈Fs1.flatten∨c∈Fs.flatten∨E2.S c→c≠b:=by
    grind
   have ed:∀c,c≠b→(w.setCells b (of+drows.length*r.n) css.flatten).heap[c]? =w.heap[c]?:=fun c hc=>DR _ _ _ _ _ hc
   have rF:=hd.mono (w':=w.setCells b (of+drows.length*r.n) css.flatten) (S':=E2.S) (fun _ h=>h) (fun c hc=>ed c (ea c (.inr (.inr hc)))) (fun c hc=>ed c (ea c (.inl hc)));have hs':=hs.mono (w':=w.setCells b (of+drows.length*r.n) css.flatten) (S':=E2.S) (fun _ h=>h) (fun c hc=>ed c (ea c (.inr (.inr hc)))) (fun c hc=>ed c (ea c (.inr (.inl hc))));have ga:=rF.append hs';have ADv:BX (w.setCells b (of+drows.length*r.n) css.flatten) b of (dcss++css).flatten:=by
    grind[List.flatten_append,BX.append,U0,Oe]
   have how:Ow (w.setCells b (of+drows.length*r.n) css.flatten) E2.S (m+1) (.sl r) [.slice (some ⟨b,of,none⟩) (drows.length+TL.length) cap] (drows++TL) (b::(Fs1++Fs).flatten):=by
    simp only[Ow];refine⟨_,cap,by rw[AOq],by simp_all,.inr ⟨b,of,_,ty0,fr,Fs1++Fs,rfl,Fm _ _ _ _ _ _ _ hb,by rw[Fl];omega,by rw[Fl];omega,rfl,ga.2.1,fun j q G hq hG=> ?_⟩⟩;have hj:=(ANF.1 hq).1;have h1:=ga.1;have xR:j<(dcss++css).length:=by omega
    refine⟨(dcss++css)[j],ga.2.2.1 _ (AN7 _),fun x u hx=> ?_,ga.2.2.2 j _ _ _ (AM4 xR) hq hG⟩;have hxl:=(ANF.1 hx).1;rw[ga.2.2.1 _ (AN7 _)]at hxl;have:=ZS (n:=r.n) (css:=dcss++css) (ex:=[]) (i:=j) ga.2.2.1 (AM4 xR) hxl;rw[AOC,hx]at this;have:=ADv _ _ this;grind
   have o_:(b::(Fs1++Fs).flatten)=(b::Fs1.flatten)++Fs.flatten:=by simp
   rw[o_]at how;obtain⟨r1,r2,r3⟩:=UZ h kT (w':=w.setCells b (of+drows.length*r.n) css.flatten) (d:=m+1) (by omega) how (fun c hc=> .inl ((AOk.1 hc).elim (hdF c) (hsF c))) ndF
    (fun c hc=>by grind[Da]) (fun c hc hcF=>ed c (fun e=>hcF (e▸hbF))) (B9 _ _ _ _)
   grind
 ·
  have hold:drows.length=0∨ ∃b o,ad=some ⟨b,o,none⟩∧BX w b o dcss.flatten:=by
   grind
  have kZ:=cv (P:=P) (w:=w) (ty:=ty) wY wm hut hu i1 i4 i2 (gK (P:=P) (cap:=cap) hd.1 hd.2.2.1 hold) hn (by omega) Ym (by omega);have uN:=grownCap_ge w (drows.length+TL.length) cap e
  generalize hgc:grownCap w (drows.length+TL.length) cap e=gc at kZ uN
  let arr:Array Value:=dcss.flatten.toArray++css.flatten.toArray++Builtin.zeroCells z.cells (gc-(drows.length+TL.length))
  have dM:arr.toList=(dcss++css).flatten++(Builtin.zeroCells z.cells (gc-(drows.length+TL.length))).toList:=by simp[arr]
  have hzl:z.cells.size=r.n:=by rw[←AUs,i5,Gy]
  have AbO:arr.size=gc*r.n:=by
   simp only[arr,AWs,AWu,aR,hzl,Zi,yd,←ASz];simp_all
  let w':=w.drew.alloc (.cells arr e)
  have new:w'.heap[w.heap.size]? =some (.cells arr e):=by
   show(w.heap.push (.cells arr e))[w.heap.size]? =_
   simp
  have ADJ:∀c,c<w.heap.size→w'.heap[c]? =w.heap[c]?:=fun c hc=>JJ (w:=w) (o:= .cells arr e) hc
  have hR1:∀c∈Fs1.flatten,c∈Fd:=fun c hc=>hp1.mem_iff.2 (by simp_all)
  have rF:=hd.mono (w':=w') (S':=E2.S) (fun _ h=>h) (fun c hc=>ADJ c (Yl.dV c (Yl.st c hc))) (fun c hc=>ADJ c (ltF c (hdF c (hR1 c hc))));have hs':=hs.mono (w':=w') (S':=E2.S) (fun _ h=>h) (fun c hc=>ADJ c (Yl.dV c (Yl.st c hc))) (fun c hc=>ADJ c (ltF c (hsF c hc)));have ga:=rF.append hs';have how:Ow w' E2.S (m+1) (.sl r) [.slice (some ⟨w.heap.size,0,none⟩) (drows++TL).length gc] (drows++TL) (w.heap.size::(Fs1++Fs).flatten):=
   dx new dM ga.1 (by simp_all) (by omega) (XY _) ga.2.1 ga.2.2.2
  rw[AOq]at how;have Te:∀c∈(Fs1++Fs).flatten,c∈Fd++Fs.flatten:=by
   grind
  have nd1:(Fs1++Fs).flatten.Nodup:=by
   grind
  have AfR:∀c∈(Fs1++Fs).flatten,c∈F:=fun c hc=>(AOk.1 (Te c hc)).elim (hdF c) (hsF c)
  obtain⟨r1,r2,r3⟩:=UZ h kT (w':=w') (d:=m+1) (by omega) how (by
    simp_all) (by
    grind) (by
    grind) (fun c hc _=>ADJ c hc) ⟨rfl,rfl,rfl,by simp[w']⟩
  grind
end
end Go.Fw
end
section
namespace Go.Fw
theorem YS{α β:Type}{args:Array α}{f:α→β}{x y:β}(h:args.toList.map f=[x,y]):∃a b,args= #[a,b]∧f a=x∧f b=y:=by
 obtain⟨l⟩:=args
 match l,h with
 |[a,b],h=>grind
theorem YH{α β:Type}{args:Array α}{f:α→β}{x:β}(h:args.toList.map f=[x]):∃a,args= #[a]∧f a=x:=by
 obtain⟨l⟩:=args;simp_all
section
variable{Y:Type} {P:Program} {T:J8} (hT:Ei P T) {o:Oper} {E:Env} {σ:St} {a:Act} {w:World} {k:K Y} {y:Y}
include hT
theorem vn(h:Rel E σ a w){c:Call}{x1 x2:XV}(ho:o.op= .call c)(hc:c.callee= .builtin .append)(Is:c.args.toList.map σ.ev=[x1,x2])(e:fQ T c.argTypes σ x1 x2 k=some y):Lw P o E σ a w k y:=by
 obtain⟨o1,o2,hargs',rfl,rfl⟩:=YS Is;have cm:=h.ev o1;have bB:=h.ev o2;have exec:∀{v w'},(Builtin.append_ c.argTypes o.type #[a.eval o1,a.eval o2]).run P w= .ok v w'→(execOp a.eval o).run P w= .ok (.value v) w':=by
  intro v w' hr;simp only[execOp,ho,resolve,hc,hargs',invoke,builtin,Sem.run_bind,Sem.run_pure,Result.andThen_ok,List.map_toArray,ATB,AVg,hr]
 unfold fQ at e;split at e
 case h_2=>cases e
 rename_i t u wY wm;split at e
 case isFalse=>cases e
 rename_i hu;have hu':(∃e,P.underlying u=some (.slice e))∨P.underlying u=some .string:=by
  rw[ASr]at hu;grind[kI,Xu]
 split at e
 ·
  rename_i z hz1 hz2;rw[hz1]at cm;rw[hz2]at bB;simp only[ANU]at e;obtain⟨⟨r,rows,RI,d⟩,e1,e⟩:=e;dsimp only at e;split at e
  case isFalse=>cases e
  rename_i Vb;split at e
  case isFalse=>cases e
  rename_i Ym;obtain⟨hd,E',F,css,Fs,R,kT,hp,hs,hn⟩:=fu (P:=P) h.bx (FP.refl _) bB e1;obtain⟨m,rfl⟩:∃m,d=m+1:=⟨d-1,by omega⟩;have AZk:a.eval o1= .slice none 0 0:=cm;obtain⟨v,w',E3,hr,r1,r2,r3⟩:=mS hT h (ty:=o.type) wY wm hu' Vb kT (v1:= .slice none 0 0) (Fd:=[]) (drows:=[]) oH hs hn (R:=R) (by simp_all) (by simp_all);rw[←AZk]at hr;simp only[ARU]at r1 r3;exact⟨_,_,_,_,_,.inl (exec hr),r1,r3,r2.any,rfl,e⟩
 ·rename_i z1 z2 hnn hz1 hz2
  rw[hz1]at cm;rw[hz2]at bB;simp only[ANU]at e;obtain⟨⟨r,rows,kG,d⟩,e1,e⟩:=e;dsimp only at e;split at e
  case isFalse=>cases e
  rename_i Vb;simp only[ANU]at e;obtain⟨⟨q,srows0,bO,ds⟩,e2,TL,e3,e⟩:=e;dsimp only at e e3;obtain⟨hqr,e4⟩:=IM e3;subst hqr;subst e4;dsimp only at e;split at e
  case isFalse=>cases e
  rename_i Ym;obtain⟨hd,F1,F2,k1,ho1⟩:=gJ h.bx (FP.refl _) cm e1;obtain⟨hds,E',F3,css,Fs,R,k2,hp,hs,hn⟩:=fu (P:=P) k1.boxes ((FP.refl _).oc k1) bB e2;obtain⟨m,hm⟩:∃m,min d ds=m+1:=⟨min d ds-1,by omega⟩;rw[hm]at e;obtain⟨A,W1,p1,ho1'⟩:=KY (d:=m+1) (by omega) ho1;obtain⟨Gs,W2,p2,hs'⟩:=hs.weaken (d':=m) (by omega);have hB:=k2.boxes.perm (G':=(A++Gs.flatten++(R++F2))++(W1++W2)++[]) (by
   grind)
  obtain⟨hle,Yl⟩:=hB.share;have kT:HJ E w σ.bx σ.bx [] _ bO (A++Gs.flatten++(R++F2)):=⟨(k1.le.trans k2.le).trans hle,k2.len.trans k1.len,fun b B hb=>(k2.within b B hb).elim .inl (k1.within b B),Yl⟩;have ho2:Ow w (fun c=>E'.S c∨c∈W1++W2) (m+1) (.sl q) [a.eval o1] rows A:=
   Eb (fun c hc=>hc.imp (k2.le.S c) (by simp_all)) (fun _ _=>rfl) (fun _ _=>rfl) ho1'
  have hs2:FN w (fun c=>E'.S c∨c∈W1++W2) m q css srows0 Gs:=hs'.mono (fun c hc=>hc.imp id (by simp_all)) (fun _ _=>rfl) (fun _ _=>rfl);obtain⟨v,w',E3,hr,r1,r2,r3⟩:=mS hT h (ty:=o.type) wY wm hu' Vb kT ho2 hs2 hn (AXS _) Ym;exact⟨_,_,_,_,_,.inl (exec hr),r1,r3,r2.any,rfl,e⟩
 simp_all
end
end Go.Fw
end
section
namespace Go.Fw
theorem mv{P:Program}{w:World}{b o:Nat}{ty:TypeId}{v:Value}(ht:w.there b o v.cells.toList.length)(hi:(P.info? ty).map (·.size)=some v.cells.toList.length)(h1:∀u∈v.cells.toList,u.oneCell' =true):
  (Instr.storeAt ty (.pointer (some ⟨b,o,none⟩)) v).run P w= .ok () (w.setCells b o v.cells.toList):=by
 have:=run_storeCells_cells (P:=P) b o v.cells.toList 0 w (fun j hj=>by simpa using(ht j hj).1) (fun j hj=>by simpa using(ht j hj).2) h1;cases hq:P.info? ty with
 |none=>simp_all
 |some i=>
  have hs:v.cells.size=i.size:=by simp_all
  simp only[ATG]at this;simp[Instr.storeAt,Instr.sureAddr,storeVar,sizeOf,typeInfo,hq,hs,this]
theorem bu{E E1 E':Env}{w w':World}{vw kG RI:List Bx}{F:ABG}(b0:Nat)(k:HJ E w vw vw [] E1 kG F)(st:∀c,E.S c→E.T c)(hlen:vw.length≤RI.length)
  (vF:∀b d r rows,b≠b0→b<vw.length→RI[b]? =some (.sl d r rows)→kG[b]? =some (.sl d r rows)) (AE3:∀b,b<vw.length→E'.IE b=E1.IE b) (nL:∀b,b<vw.length→E'.IF b=E1.IF b) (hT:E'.T=E1.T) (hS:E'.S=E1.S)
  (hw:∀c,c<w.heap.size→c∉F→w'.heap[c]? =w.heap[c]?)
  (h0:∀d r rows,RI[b0]? =some (.sl d r rows)→ ∃d0 TH,vw[b0]? =some (.sl d0 r TH)∧
   ∀p,DE r TH p→ ∀q ys,HE r TH p=some ⟨q,ys⟩→DE r rows p∧(∃vC,HE r rows p=some ⟨q,vC⟩∧List.length vC=List.length ys)∧
    ∀h,JH w (E.IF b0) p=some h→JH w' (E'.IF b0) p=some h):Tg E w vw E' w' RI:=by
 have hB:=k.boxes;obtain⟨Fs,⟨h1,h2⟩,h3⟩:=hB;simp only[AOC]at h3;have xN:∀c,E1.T c→w'.heap[c]? =w.heap[c]?:=fun c hc=>hw c (h3.dV c hc) fun hf=>h3.free c (by simp[hf]) hc
 refine⟨hlen,fun b hb=>by rw[AE3 b hb,k.le.IE],fun c hc=>by rw[hT];exact k.le.T c hc,fun c hc=>by rw[hS];exact k.le.S c hc,st,fun c hc=>xN c (k.le.T c hc),fun b d r rows hb e=> ?_⟩;by_cases hb0:b=b0
 ·simp_all
 have e1:=vF b _ _ _ hb0 hb e;rcases k.within b _ e1 with e2|e2
 ·cases e2
 ·refine⟨d,rows,e2,fun p hp q ys hg=>⟨hp,⟨ys,hg,rfl⟩,fun h' hh=> ?_⟩⟩
  have hF:Fs[b]? =some (Fs[b]'(by grind)):=AM4 _;obtain⟨hd,ho⟩:=h2 b _ _ e1 hF;rw[nL b hb];rw[←k.le.IF]at hh;refine tq ho (fun c hc=>xN c (h3.st c hc)) (fun c hc=> ?_) hp hg hh;have Te:c∈Fs.flatten:=ASb.2 ⟨_,APx hF,hc⟩;exact hw c (h3.lt c (by simp[Te])) fun hf=>(AOj.1 h3.nodup).2.2 c Te c hf rfl
def Bx.map(f:AV→AV):Bx→Bx
 | .mem cs=> .mem (cs.map f)
 |B=>B
theorem C8.AUi{E E':Env}{w w':World}{vw vw' bx:List Bx}{G:ABG}(f:AV→AV)(h:C8 E w vw bx G)(k:∀x v,VR E w vw x v→VR E' w' vw' (f x) v)
  (hS:∀c,E.S c→E'.S c) (AE3:∀b,b<bx.length→E'.IE b=E.IE b) (nL:∀b,b<bx.length→E'.IF b=E.IF b)
  (hw:∀c,(E.S c∨(¬E.T c∧c∉G))→c<w.heap.size→w'.heap[c]? =w.heap[c]?)
  (ADA:∀F,Sep E w (F++G)→Sep E' w' (F++G)):C8 E' w' vw' (bx.map (Bx.map f)) G:=by
 obtain⟨Fs,⟨hl,h1⟩,h2⟩:=h;refine⟨Fs,⟨by simp_all,fun n B F hn hF=> ?_⟩,ADA _ h2⟩;rw[ASa,AND]at hn;obtain⟨B,hn,rfl⟩:=hn;have G4:=(ANF.1 hn).1;have h3:=h1 n B F hn hF;have ANr:∀c∈F,c∈Fs.flatten:=fun c hc=>ASb.2 ⟨F,APx hF,hc⟩
 have hFw:∀c∈F,w'.heap[c]? =w.heap[c]?:=fun c hc=>hw c (.inr ⟨h2.free c (by simp_all),fun hg=>by
  have:=(AOj.1 h2.nodup).2.2 c (ANr c hc) c hg;omega⟩) (h2.lt c (by simp_all))
 have sr:∀c,E.S c→w'.heap[c]? =w.heap[c]?:=fun c hc=>hw c (.inl hc) (h2.dV c (h2.st c hc))
 cases B with
 |mem cs=>
  obtain⟨rfl,arr,ty,fr,ha,hu,hv⟩:=h3;refine⟨by simp_all,arr,ty,fr,?_,hu,CW.Lk f k hv⟩;simp_all
 |sl d r rows=>
  obtain⟨hd,ho⟩:=h3;refine⟨hd,?_⟩;grind[Eb]
 |dead=>exact h3
theorem Bx.map_id:∀B:Bx,Bx.map id B=B
 | .mem cs=>by simp[Bx.map]
 | .sl _ _ _=>rfl
 | .dead=>rfl
theorem aj(bx:List Bx):bx.map (Bx.map id)=bx:=by
 induction bx with
 |nil=>rfl
 |cons B l ih=>simp[ih,Bx.map_id]
theorem mM(b:Nat)(bx:List Bx):bx.map (z8 b)=bx.map (Bx.map (J9 b)):=by
 rfl
theorem AA7{E:Env}{σ:St}{a:Act}{w:World}(h:Rel E σ a w){b j:Nat}{cs eD:List AV}(hb:σ.bx[b]? =some (.mem cs)){xs:List AV}{vs:List Value}(hx:jj E w σ.bx xs vs)(ea:xs≠[])
  (e:Yd cs j xs=some eD):
  w.there (E.IE b) j vs.length∧Rel E { σ with bx:=σ.bx.set b (.mem eD) } a (w.setCells (E.IE b) j vs)∧SD [b] E σ.bx w E (σ.bx.set b (.mem eD)) (w.setCells (E.IE b) j vs):=by
 have st:=h.bx.st;obtain⟨F,⟨rfl,arr,ty,fr,ha,hu,hv⟩,hB⟩:=h.bx.take hb;simp only[AOC]at hB;have G4:=(ANF.1 hb).1;rcases Xw hv hx e with⟨h1,h2⟩|⟨h1,_⟩
 case inr=>simp_all
 have dv:j+vs.length≤arr.size:=by
  have l1:=CW.len hv;have l2:=CW.len hx;simp_all
 have c_: ¬E.T (E.IE b):=hB.AFI _ (by simp);have hB0:=hB;have ed:∀c,c≠E.IE b→(w.setCells (E.IE b) j vs).heap[c]? =w.heap[c]?:=fun c hc=>DR _ _ _ _ _ hc
 have hw:∀c,c<w.heap.size→c∉[E.IE b]→(w.setCells (E.IE b) j vs).heap[c]? =w.heap[c]?:=fun c _ hc=>ed c (by simp_all)
 have kT:HJ E w σ.bx σ.bx [] E (σ.bx.set b .dead) [E.IE b]:=⟨Le.refl _,by simp,fun n B hn=>by
  grind,by simp_all⟩
 have keep:Tg E w σ.bx E (w.setCells (E.IE b) j vs) (σ.bx.set b (.mem eD)):=bu b kT st (by simp) (fun n d r rows hn _ hq=>by
   grind) (fun _ _=>rfl) (fun _ _=>rfl) rfl rfl hw (fun d r rows hq=>by
   simp_all)
 refine⟨Vg ha dv hu,⟨h.OO,h.tm.imp fun _ _ hq=>PX keep hq,?_⟩,⟨⟨fun _ h=>h,fun _ h=>h,fun _ h=> .inl h,fun _ h=> .inl h,fun c hc=>ed c (fun e=>c_ (e▸hc)),(B9 _ _ _ _).os,(B9 _ _ _ _).tape,(B9 _ _ _ _).output,(B9 _ _ _ _).size⟩,by simp,fun _ _=>⟨rfl,rfl⟩,fun n hn=>by
  grind,fun n B B' q9 hB UA yH=>by
  simp at q9;rw[ASc (fun e=>q9 e.symm),hB]at UA;cases UA;refine⟨Vy.refl yH,fun c hc=>ed c (fun e=> ?_)⟩;obtain⟨Fs,⟨f1,f2⟩,f3⟩:=hB0;have Yl:(σ.bx.set b .dead)[n]? =some B:=by grind
  have hF:Fs[n]? =some (Fs[n]'(by grind)):=AM4 _;rcases fN (f2 n B _ Yl hF) hc with hs|hs
  ·simp_all
  ·exact(AOj.1 f3.nodup).2.2 c (ASb.2 ⟨_,APx hF,hs⟩) (E.IE b) (by simp) e⟩⟩
 have hT:=hB.turn (E':=E) (w':=w.setCells (E.IE b) j vs) (vw':=σ.bx.set b (.mem eD)) (fun x v hq=>GS keep hq) (fun _ h=>h) (fun _ _=>rfl) (fun _ _=>rfl) (fun c hc _=>ed c (fun e=>by
   simp_all)) (fun F hF=>⟨hF.nodup,hF.free,fun c hc=>by rw[Da];exact hF.lt c hc,hF.st,fun c hc=>by rw[Da];exact hF.dV c hc⟩)
 have:=C8.put (b:=b) (B:= .mem eD) (F:=[E.IE b]) (G:=[]) (by simpa using hT) (by simp_all) ⟨rfl,FM arr j vs,ty,fr,Fm _ _ _ _ _ _ _ ha,by rw[Fl];omega,h1.imp fun _ _ hq=>GS keep hq⟩;simp_all
theorem Xy:∀{r:Ty} {j j':Nat} {x:r.D} {t:Ty} {y:t.D} {x':r.D},D5 r j x t y=some x'→j'≠j→BN r j' x' =BN r j' x
 | .cons c r,0,j',x,t,y,x',e,hj=>by
  simp only[D5]at e;split at e
  ·rename_i h
   subst h;simp only[ANB]at e;subst e;cases j' with
   |zero=>omega
   |succ j' =>rfl
  simp_all
 | .cons c r,j+1,j',x,t,y,x',e,hj=>by
  simp only[D5,AND]at e;obtain⟨z,e1,rfl⟩:=e;cases j' with
  |zero=>rfl
  |succ j' =>
   simp only[BN];exact Xy e1 (by omega)
 | .unit,_,_,_,_,_,_,e,_=>by rfl
 | .int k,0,j',x,t,y,x',e,hj=>by cases j' with
  |zero=>omega
  |succ j' =>rfl
 | .bool,0,j',x,t,y,x',e,hj=>by cases j' with
  |zero=>omega
  |succ j' =>rfl
 | .str,0,j',x,t,y,x',e,hj=>by cases j' with
  |zero=>omega
  |succ j' =>rfl
 | .sl _,0,j',x,t,y,x',e,hj=>by cases j' with
  |zero=>omega
  |succ j' =>rfl
 | .int _,_+1,_,_,_,_,_,e,_=>by simp[D5]at e
 | .bool,_+1,_,_,_,_,_,e,_=>by simp[D5]at e
 | .str,_+1,_,_,_,_,_,e,_=>by simp[D5]at e
 | .sl _,_+1,_,_,_,_,_,e,_=>by simp[D5]at e
theorem VH:∀{r:Ty} {j:Nat} {x:r.D} {t:Ty} {y:t.D} {x':r.D},D5 r j x t y=some x'→BN r j x' =some ⟨t,y⟩∧ ∃y0:t.D,BN r j x=some ⟨t,y0⟩
 | .cons c r,0,x,t,y,x',e=>by
  simp only[D5]at e;split at e
  ·rename_i h
   subst h;simp only[ANB]at e;subst e;exact⟨rfl,_,rfl⟩
  simp_all
 | .cons c r,j+1,x,t,y,x',e=>by
  simp only[D5,AND]at e;obtain⟨z,e1,rfl⟩:=e;simp only[BN];exact VH e1
 | .unit,_,_,_,_,_,e=>by simp[D5]at e
 | .int k,0,x,t,y,x',e=>by
  simp only[D5]at e;split at e
  ·rename_i h;subst h;cases e;exact⟨rfl,_,rfl⟩
  simp_all
 | .bool,0,x,t,y,x',e=>by
  simp only[D5]at e;split at e
  ·rename_i h;subst h;cases e;exact⟨rfl,_,rfl⟩
  simp_all
 | .str,0,x,t,y,x',e=>by
  simp only[D5]at e;split at e
  ·rename_i h;subst h;cases e;exact⟨rfl,_,rfl⟩
  simp_all
 | .sl _,0,x,t,y,x',e=>by
  simp only[D5]at e;split at e
  ·rename_i h;subst h;cases e;exact⟨rfl,_,rfl⟩
  simp_all
 | .int _,_+1,_,_,_,_,e=>by simp[D5]at e
 | .bool,_+1,_,_,_,_,e=>by simp[D5]at e
 | .str,_+1,_,_,_,_,e=>by simp[D5]at e
 | .sl _,_+1,_,_,_,_,e=>by simp[D5]at e
theorem lA{r:Ty}{rows:List r.D}{i k:Nat}{x:r.D}(hi:i<rows.length):rowAt r (rows.set i x) k=if k=i then x else rowAt r rows k:=by
 unfold rowAt;grind
theorem qF:∀{p:List Xb} {r:Ty} {rows C0:List r.D} {q:Ty} {ys vC:List q.D},HE r rows p=some ⟨q,ys⟩→vC.length=ys.length→qa r rows p q vC=some C0→C0.length=rows.length
 |[],r,rows,C0,q,ys,vC,h1,h2,h3=>by
  simp only[HE,ANB,AOQ]at h1;obtain⟨rfl,h1⟩:=h1;obtain rfl:=ASX h1;simp only[qa,AXC,Rh,ANB]at h3;simp_all
 |s::p,r,rows,C0,q,ys,vC,h1,h2,h3=>by
  simp only[qa]at h3;split at h3
  ·simp only[ANU,AND]at h3
   grind
  simp_all
theorem mY{t:Ty}(ht:t.scalar=true){y:t.D}{q:Ty}{i j:Nat}:∀{p':List Xb} {r:Ty} {rows C0:List r.D} {p:List Xb} {ys:List q.D} {a8:q.D},DE r rows p→HE r rows p=some ⟨q,ys⟩→i<ys.length→
  D5 q j (rowAt q ys i) t y=some a8→qa r rows p q (ys.set i a8)=some C0→DE r rows p'→ ∀q' zs,HE r rows p' =some ⟨q',zs⟩→
   DE r C0 p'∧ ∃zs',HE r C0 p' =some ⟨q',zs'⟩∧List.length zs' =List.length zs
 |[],r,rows,C0,p,ys,a8,_,hg,hi,hc,hs,_,q',zs,vz=>by
  simp only[HE,ANB,AOQ]at vz;obtain⟨rfl,vz⟩:=vz;obtain rfl:=ASX vz;exact⟨by simp[DE],C0,by rfl,qF hg (by simp) hs⟩
 |s'::p',r,rows,C0,p,ys,a8,hp,hg,hi,hc,hs,hp',q',zs,vz=>by
  have hlen:=qF hg (by simp) hs;simp only[DE]at hp'⊢;obtain⟨g1,g2,g3⟩:=hp';simp only[HE]at vz⊢;split at vz
  case h_2=>cases vz
  rename_i q0 x0 gp;rw[gp]at g3;dsimp only at g3;have key:∃x1,BN r s'.j (rowAt r C0 s'.i)=some ⟨.sl q0,x1⟩∧DE q0 x1 p'∧ ∃zs',HE q0 x1 p' =some ⟨q',zs'⟩∧List.length zs' =List.length zs:=by
   have same:BN r s'.j (rowAt r C0 s'.i)=some ⟨.sl q0,x0⟩→ ∃x1,BN r s'.j (rowAt r C0 s'.i)=some ⟨.sl q0,x1⟩∧DE q0 x1 p'∧ ∃zs',HE q0 x1 p' =some ⟨q',zs'⟩∧List.length zs' =List.length zs:=
    fun h=>⟨x0,h,g3,zs,vz,rfl⟩
   cases p with
   |nil=>
    simp only[HE,ANB,AOQ]at hg;obtain⟨rfl,hg⟩:=hg;obtain rfl:=ASX hg;simp only[qa,AXC,Rh,ANB]at hs;subst hs;apply same;rw[lA hi];split
    ·rename_i e
     subst e;by_cases ej:s'.j=j
     ·obtain⟨_,y0,h0⟩:=VH hc
      rw[ej,h0]at gp;simp only[ANB,AOQ]at gp;obtain⟨rfl,_⟩:=gp;simp[Ty.scalar]at ht
     grind[Xy]
    omega
   |cons s p=>
    simp only[DE]at hp;obtain⟨k1,k2,k3⟩:=hp;simp only[HE]at hg;split at hg
    case h_2=>cases hg
    rename_i r' x hcx;rw[hcx]at k3;dsimp only at k3;simp only[qa,hcx,ANU,AND]at hs;obtain⟨x',hs1,row2,hs2,rfl⟩:=hs;rw[lA k1];rw[lA k1]at same;split
    ·rename_i e
     rw[AM1 e]at same;rw[e]at gp;by_cases ej:s'.j=s.j
     ·rw[ej]at gp⊢
      rw[hcx]at gp;simp only[ANB,AOQ,Ty.sl.injEq]at gp;obtain⟨rfl,gp⟩:=gp;obtain rfl:=ASX gp;obtain⟨m1,m2⟩:=mY ht k3 hg hi hc hs1 g3 q' zs vz;grind[VH]
     grind[Xy]
    simp_all
  grind
theorem sY{w w':World}{B:Nat→Prop}(bN:∀A,w'.cell? A=w.cell? A∨ ∃v,w'.cell? A=some v∧isSlice v=false):∀{p:List Xb} {r:Ty} {h:Value} {rows:List r.D} {hh:Value},
  Rd w' B (.sl r) [h] rows→DE r rows p→JH w h p=some hh→JH w' h p=some hh
 |[],_,h,_,hh,_,_,e=>by grind[DA]
 |s::p,r,h,rows,hh,hr,hp,e=>by
  simp only[DE]at hp;obtain⟨hi,P5,hp⟩:=hp;simp only[Rd]at hr;obtain⟨a,cap,e1,_,hr⟩:=hr;obtain rfl:=(List.cons.inj e1).1;rcases hr with hr|⟨b,o,rfl,hb,hr⟩
  ·omega
  obtain⟨cs,hl,hc,hrow⟩:=hr s.i _ (RX hi);split at hp
  case h_2=>exact hp.elim
  rename_i q x gp;obtain⟨v,hv,hrv⟩:=fB hrow gp;have hcv:=hc _ _ hv;rw[←P5]at hcv;simp only[JH]at e⊢;split at e
  case h_2=>cases e
  rename_i v0 hv0;rcases bN ⟨b,o+s.i*s.sz+s.j,none⟩with h1|⟨u,h1,h2⟩
  ·rw[h1,hv0]
   rw[h1,hv0]at hcv;cases hcv;exact sY bN hrv hp e
  ·rw[hcv]at h1
   cases h1;simp only[Rd]at hrv;obtain⟨_,_,e2,_⟩:=hrv;simp only[AR6,ASq]at e2;grind[isSlice]
theorem ACo{E E':Env}{w w':World}{vw vw':List Bx}{b d d':Nat}{r:Ty}{rows C0:List r.D}(k:Tg E w vw E' w' (vw'.set b .dead))(hb:vw[b]? =some (.sl d r rows))(vU:vw'[b]? =some (.sl d' r C0))(hl:C0.length=rows.length)
  (hh:E'.IF b=E.IF b) {x:AV} {v:Value} (h:VR E w vw x v):VR E' w' vw' (J9 b x) v:=by
 have h1:=GS k h;have ed:∀{b'},b'≠b→(vw'.set b .dead)[b']? =vw'[b']?:=fun e=>ASc (fun h=>e h.symm)
 cases x with
 |v t x=>exact h1
 |sl s r x=>exact h1
 |nil=>exact h1
 |Ik c j=>exact⟨by simpa using h1.1,h1.2⟩
 |P4 s r x j=>exact h1
 |fn f Ky=>exact⟨fun c hc=>by simpa using h1.1 c hc,h1.2⟩
 |q7 f rows=>exact h1
 |xd=>exact h1
 |undef=>trivial
 |ref c p=>
  cases p with
  |nil=>
   simp only[J9];by_cases e:c=b
   ·subst e
    simp only[VR,hb,vU]at h⊢;refine⟨h.1,by simp[DE],⟨_,rfl⟩,?_⟩;grind[DA]
   grind[VR]
  |cons s p=>
   grind[J9,VR]
 |win c p off n=>
  cases p with
  |nil=>
   simp only[J9];by_cases e:c=b
   ·subst e
    simp only[VR,hb,vU]at h⊢;obtain⟨h0,_,q,ys,a,len,cap,e1,e2,e3,e4⟩:=h;simp only[HE,ANB,AOQ]at e1;obtain⟨rfl,e1⟩:=e1;obtain rfl:=ASX e1;refine⟨h0,by simp[DE],r,C0,a,len,cap,rfl,by omega,?_,e4⟩;grind[DA]
   grind[VR]
  |cons s p=>
   grind[J9,VR]
 |Jn c p i sz j=>
  cases p with
  |nil=>
   simp only[J9];by_cases e:c=b
   ·subst e
    simp only[VR,hb,vU]at h⊢;obtain⟨h0,_,q,ys,bb,o,len,cap,e1,e2,e3,e4⟩:=h;simp only[HE,ANB,AOQ]at e1;obtain⟨rfl,e1⟩:=e1;obtain rfl:=ASX e1;refine⟨h0,by simp[DE],r,C0,bb,o,len,cap,rfl,by omega,?_,e4⟩;grind[DA]
   grind[VR]
  |cons s p=>
   grind[J9,VR]
theorem ADj{E E':Env}{w w':World}{vw vw':List Bx}{b:Nat}(k:∀x v,VR E w vw x v→VR E' w' vw' (J9 b x) v){x:XV}{v:Value}(h:XR E w vw x v):XR E' w' vw' (tf b x) v:=by
 cases x with
 |c x=>exact k x v h
 |agg l=>
  obtain⟨vs,rfl,Wl⟩:=h;exact⟨vs,rfl,CW.Lk _ k Wl⟩
 |M3 l=>
  obtain⟨vs,rfl,Wl⟩:=h;refine⟨vs,rfl,CW.Lk _ (fun x v hx=> ?_) Wl⟩;cases x with
  |inl x=>exact k x v hx
  |inr q=>
   obtain⟨us,rfl,hus⟩:=hx;exact⟨us,rfl,CW.Lk _ k hus⟩
end Go.Fw
end
section
namespace Go.Fw
theorem oV{w:World}{vw:List Bx}{E:Env}{bx:List Bx}{G:ABG}(h:C8 E w vw bx G)(hw:FP bx vw){d:Nat}(hd:1≤d){q:Ty}{old:q.D}{j:Nat}{x:XV}{v:Value}(hv:XR E w vw x v){a8:q.D}{RI:List Bx}{d':Nat}
  (e:p7 d q old j x bx=some (a8,RI,d')):1≤d'∧d'≤d∧ ∃E' F,HJ E w vw bx G E' RI F∧
   ((j=0∧x.plain=false∧Ow w E'.S (d'-1) q v.cells.toList a8 F)∨(∃t y,v.cells.toList=[v]∧Ow w E'.S (d'-1) t [v] y F∧D5 q j old t y=some a8∧(x.plain=true→t.scalar=true∧isSlice v=false))):=by
 unfold p7 at e;split at e
 ·rename_i l
  split at e
  case isFalse=>cases e
  rename_i hj;obtain⟨vs,rfl,Wl⟩:=hv;obtain⟨h1,h2,E',F,h3,h4⟩:=Z2 h hw hd Wl e;exact⟨h1,h2,E',F,h3,.inl ⟨hj,rfl,h4⟩⟩
 ·rename_i x
  split at e
  case h_2=>cases e
  rename_i t y0 hc;simp only[ANU,AND,ASM]at e;obtain⟨⟨y,kG,d1⟩,e1,row,e2,rfl,rfl,rfl⟩:=e;dsimp only at e2;have ZL:VR E w vw x v:=hv;have hk:x.known=true:=by grind[AV.known,eG]
  obtain⟨h1,h2,E',F,h3,h4⟩:=bo h hw hd ZL e1;refine⟨h1,h2,E',F,h3,.inr ⟨t,y,by rw[(uy ZL hk).2],h4,e2,fun hp=> ?_⟩⟩;cases x with
  |v u z=>
   simp only[eG,AND,ASM]at e1;obtain⟨z',e3,_⟩:=e1;obtain⟨rfl,_⟩:=IM e3;obtain⟨hs,hr⟩:=ZL;refine⟨hs,?_⟩;cases u<;>simp_all[Ty.scalar,Rd]<;>rfl
  |_=>simp[XV.plain]at hp
 simp_all
theorem pj{f:AV→AV}{bx:List Bx}{b d:Nat}{r:Ty}{rows:List r.D}:(bx.set b (.sl d r rows)).map (Bx.map f)=(bx.map (Bx.map f)).set b (.sl d r rows):=by
 rw[List.map_set];rfl
theorem AFV{f:AV→AV}{bx:List Bx}{n d:Nat}{r:Ty}{rows:List r.D}(h:(bx.map (Bx.map f))[n]? =some (.sl d r rows)):bx[n]? =some (.sl d r rows):=by
 rw[ASa,AND]at h;obtain⟨B,h1,h2⟩:=h;cases B with
 |mem cs=>simp[Bx.map]at h2
 |sl d' r' C0=>rw[h1];exact congrArg some h2
 |dead=>simp[Bx.map]at h2
theorem sD{E:Env}{σ:St}{a:Act}{w:World}(h:Rel E σ a w){b i sz j:Nat}{p:List Xb}{va v:Value}(hva:VR E w σ.bx (.Jn b p i sz j) va){x:XV}(hv:XR E w σ.bx x v)(h1c:∀u∈v.cells.toList,u.oneCell' =true)
  {σ':St} (e:hI σ (.c (.Jn b p i sz j)) x=some σ'):
  ∃bb oo E',va= .pointer (some ⟨bb,oo,none⟩)∧w.there bb oo v.cells.toList.length∧Rel E' σ' a (w.setCells bb oo v.cells.toList)∧SD [b] E σ.bx w E' σ'.bx (w.setCells bb oo v.cells.toList)∧σ'.tm.length=σ.tm.length:=by
 simp only[hI]at e;split at e
 case h_2=>cases e
 rename_i d r rows hb;split at e
 case isFalse=>cases e
 rename_i xu;simp only[ANU]at e;obtain⟨⟨q,ys⟩,hg,e⟩:=e;dsimp only at e;split at e
 case isFalse=>cases e
 rename_i P5;simp only[ANU,AND]at e;obtain⟨⟨a8,bO,d2⟩,e1,C0,e2,e3⟩:=e;dsimp only at e1 e2 e3;have st:=h.bx.st;simp only[VR,hb]at hva;obtain⟨_,hp,q1,ys1,bb,o,len,cap,g1,hi,g3,rfl⟩:=hva;rw[hg]at g1;simp only[ANB,AOQ]at g1;obtain⟨rfl,g1⟩:=g1;obtain rfl:=ASX g1;have G4:=(ANF.1 hb).1;obtain⟨Gb,⟨hd1,ho⟩,hB⟩:=h.bx.take hb;have QM:FP (σ.bx.set b .dead) σ.bx:=fun n B hn=>by
  grind
 obtain⟨hd2,hd3,E1,Fx,k1,hrow⟩:=oV hB QM (by omega) hv e1;obtain⟨A,W,pG,ho2⟩:=KY (d:=d2+p.length) (by omega) ho;have Yl:=k1.boxes.perm (G':=(Fx++A)++W++[]) (by
  grind)
 obtain⟨hle,hB3⟩:=Yl.share;simp only[AOC]at hB3
 generalize hE3:({ E1 with S:=fun c=>E1.S c∨c∈W,T:=fun c=>E1.T c∨c∈W }:Env)=E3 at hle hB3
 have oL:Le E E3:=k1.le.trans hle;have ho3:Ow w E3.S (d2+p.length) (.sl r) [E.IF b] rows A:=Eb (fun c hc=>by
  subst hE3;exact hc.imp (k1.le.S c) id) (fun _ _=>rfl) (fun _ _=>rfl) ho2
 obtain⟨h',F1,F2,m1,m2,m3,m4⟩:=qV ho3 hp hg (by omega);rw[g3]at m1;cases m1;obtain⟨m,rfl⟩:∃m,d2=m+1:=⟨d2-1,by omega⟩;rw[show m+1+p.length-p.length=m+1 by omega]at m2 m4;simp only[Nat.add_sub_cancel]at hrow;obtain⟨b1,o1,arr,ty,fr,cs,G,R,n1,n2,n3,n4,n5,n6,n7,n8,n9⟩:=ug m2 hi;simp only[ANB,Addr.mk.injEq,ASq]at n1;obtain⟨rfl,rfl⟩:=n1;subst P5;have hAp:A.Perm (G++(bb::R)++F2):=m3.trans (n8.append_right F2);obtain⟨Fs,hFs1,hFs2⟩:=hB3;have hbA:bb∈A:=hAp.mem_iff.2 (by simp);have c_: ¬E3.T bb:=hFs2.free bb (by simp[hbA]);have zA: ¬E3.S bb:=fun hc=>c_ (hFs2.st bb hc)
 have nd:(Fx++(G++(bb::R)++F2)).Nodup:=(AVQ Fx hAp).nodup_iff.1 (AOj.1 hFs2.nodup).2.1;have hnx:bb∉Fx:=fun hc=>(AOj.1 nd).2.2 bb hc bb (by simp) rfl
 have hnG:bb∉G:=fun hc=>(AOj.1 (AOj.1 (AOj.1 nd).2.1).1).2.2 bb hc bb (by simp) rfl
 have hnR:bb∉R:=(AVi.1 (AOj.1 (AOj.1 (AOj.1 nd).2.1).1).2.1).1;have hn2:bb∉F2:=fun hc=>(AOj.1 (AOj.1 nd).2.1).2.2 bb (by simp) bb hc rfl
 have Zi:j+v.cells.toList.length≤q.n:=by
  rcases hrow with⟨rfl,_,ho4⟩|⟨t,y,hc1,ho4,Va,_⟩
  ·rw[Yc ho4];omega
  ·rw[hc1]
   obtain⟨_,y0,hc0⟩:=VH Va;grind[ey,List.getElem?_eq_some_iff]
 have dv:o+i*q.n+j+v.cells.toList.length≤arr.size:=by omega
 let w':=w.setCells bb (o+i*q.n+j) v.cells.toList
 have ed:∀c,c≠bb→w'.heap[c]? =w.heap[c]?:=fun c hc=>DR _ _ _ _ _ hc
 have sr:∀c,E3.S c→w'.heap[c]? =w.heap[c]?:=fun c hc=>ed c (fun e=>zA (e▸hc))
 have vU:=Fm v.cells.toList (o+i*q.n+j) w bb arr ty fr n2;have bN:∃eD G' D0,eD.length=q.n∧BX w' bb (o+i*q.n) eD∧Ow w' E3.S m q eD a8 G'∧(Fx++G).Perm (G'++D0):=by
  rcases hrow with⟨rfl,_,ho4⟩|⟨t,y,hc1,ho4,Va,_⟩
  ·refine⟨v.cells.toList,Fx,G,Yc ho4,Oe n2 dv,Eb (fun c hc=>hle.S c hc) (fun c hc=>ed c (fun e=>zA (e▸hle.S c hc))) (fun c hc=>ed c (fun e=>hnx (e▸hc))) ho4,AXS _⟩
  ·obtain⟨_,y0,hc0⟩:=VH Va
   obtain⟨u,K1,K2,z1,z2,z3,z4⟩:=ey n7 hc0;have AZi:bb∉K2:=fun hc=>hnG (z3.mem_iff.2 (by simp[hc]))
   obtain⟨F',f1,f2⟩:=z4 w' E3.S v y Fx a8 (fun _ hc=>hc) sr (fun c hc=>ed c (fun e=>AZi (e▸hc)))
    (Eb (fun c hc=>hle.S c hc) (fun c hc=>ed c (fun e=>zA (e▸hle.S c hc))) (fun c hc=>ed c (fun e=>hnx (e▸hc))) ho4) Va
   refine⟨cs.set j v,F',K1,by simp_all,fun x u' hx=> ?_,f2,?_⟩
   ·rw[List.getElem?_set]at hx
    split at hx
    ·rename_i ejx
     subst ejx;split at hx
     ·cases hx
      have:=Oe (w:=w) (b:=bb) (o:=o+i*q.n+j) (vs:=v.cells.toList) n2 dv 0 v (by simp_all);omega
     simp_all
    ·rename_i ejx
     have hold:=n6 x u' hx;rw[LJ n2]at hold;rw[LJ vU,XF dv,AM2 (fun hh=>by grind),hold]
   grind
 obtain⟨eD,G',D0,c1,c2,c3,c4⟩:=bN;obtain⟨oF,f1,f2⟩:=n9 w' E3.S (FM arr (o+i*q.n+j) v.cells.toList) eD a8 G' (fun _ hc=>hc) sr (fun c hc=>ed c (fun e=>hnR (e▸hc))) vU (Fl _ _ _) (fun k hk=>by
  rw[XF dv,AM2 (by omega)]) c1 c2 c3
 obtain⟨F',f3,f4⟩:=m4 w' E3.S (ys.set i a8) oF C0 (fun _ hc=>hc) sr (fun c hc=>ed c (fun e=>hn2 (e▸hc))) f2 e2;have o_:(Fx++A).Perm (F'++D0):=by
  have p1:F'.Perm (G'++(bb::R)++F2):=f3.trans (f1.append_right F2);refine(AVQ Fx hAp).trans (List.Perm.trans ?_ (p1.symm.append_right D0));grind
 have AfY:bb∈F':=(f3.trans (f1.append_right F2)).mem_iff.2 (by simp);have hB4:C8 E3 w σ.bx bO F':=by
  have:C8 E3 w σ.bx bO (F'++D0):=C8.perm (G:=Fx++A) ⟨Fs,hFs1,hFs2⟩ o_;exact this.drop
 have p8:bO.length=σ.bx.length:=by rw[k1.len];simp
 have AV_:bO[b]? =some .dead:=by
  obtain⟨B,hB⟩:∃B,bO[b]? =some B:=⟨_,AM4 (by omega)⟩;rcases k1.within b B hB with e|e
  all_goals simp_all
 have hrl:C0.length=rows.length:=qF hg (by simp) e2;have kT:∀E0,Le E0 E3→HJ E0 w σ.bx σ.bx [] E3 bO (Fx++A):=fun E0 hl=>⟨hl,p8,fun n B hn=>by
  rcases k1.within n B hn with e|e
  all_goals grind,⟨Fs,hFs1,by simp_all⟩⟩
 have nL:∀n,E3.IF n=E.IF n:=fun n=>by rw[oL.IF]
 have hww:∀c,c<w.heap.size→c∉Fx++A→w'.heap[c]? =w.heap[c]?:=fun c _ hc=>ed c (fun e=>hc (by simp_all))
 have base:dZ E w E3 w':=⟨oL.T,oL.S,oL.Tof,oL.zt,fun c hc=>ed c (fun e=>c_ (e▸oL.T c hc)),(B9 _ _ _ _).os,(B9 _ _ _ _).tape,(B9 _ _ _ _).output,(B9 _ _ _ _).size⟩;have finish:∀(f:AV→AV) (g:XV→XV),(∀E0,Le E0 E3→(∀c,E0.S c→E0.T c)→ ∀x v,VR E0 w σ.bx x v→VR E3 w' ((bO.map (Bx.map f)).set b (.sl (m+1+p.length) r C0)) (f x) v)→
   (∀x v,XR E w σ.bx x v→XR E3 w' ((bO.map (Bx.map f)).set b (.sl (m+1+p.length) r C0)) (g x) v)→
   Rel E3 { tm:=σ.tm.map g,bx:=(bO.map (Bx.map f)).set b (.sl (m+1+p.length) r C0) } a w':=by
  intro f g hf hg;refine⟨h.OO,CW.Lk _ hg h.tm,?_⟩;have hT:=hB4.AUi (E':=E3) (w':=w') (vw':=(bO.map (Bx.map f)).set b (.sl (m+1+p.length) r C0)) f (hf E3 (Le.refl _) hFs2.st) (fun _ h=>h) (fun _ _=>rfl) (fun _ _=>rfl) (fun c hc _=>ed c (fun e=>by
    simp_all)) (fun F hF=>⟨hF.nodup,hF.free,fun c hc=>by rw[Da];exact hF.lt c hc,hF.st,fun c hc=>by rw[Da];exact hF.dV c hc⟩)
  refine C8.put (F:=F') (G:=[]) (by simp_all) (by rw[ASa,AV_];rfl) ⟨by omega,?_⟩;simp_all
 have AUR:∀f:AV→AV,SD [b] E σ.bx w E3 ((bO.map (Bx.map f)).set b (.sl (m+1+p.length) r C0)) w':=fun f=>⟨base,by simp[p8],fun n _=>⟨by rw[oL.IE],nL n⟩,fun n hn=>by
  have q9:n≠b:=fun e=>by simp_all
  have wE:=(ANF.1 hn).1;rw[ASc (fun e=>q9 e.symm),ASa];obtain⟨B,hB⟩:∃B,bO[n]? =some B:=⟨_,AM4 (by omega)⟩;have hBd:B= .dead:=by
   rcases(kT E oL).within n B hB with e|e
   all_goals simp_all
  rw[hB,hBd];rfl,fun n B B' q9 hB UA yH=>by
  simp at q9;have wE:=(ANF.1 hB).1;rw[ASc (fun e=>q9 e.symm),ASa]at UA;obtain⟨B2,Yl⟩:∃B2,bO[n]? =some B2:=⟨_,AM4 (by omega)⟩;rw[Yl]at UA;have UA:Bx.map f B2=B':=by simp_all
  have hBB:B2=B:=by
   rcases(kT E oL).within n B2 Yl with e|e
   ·subst e;exact absurd UA.symm yH
   simp_all
  subst hBB;refine⟨?_,fun c hc=>ed c (fun e=> ?_)⟩
  ·subst UA
   cases B2 with
   |mem cs=>trivial
   |sl d r rows=>rfl
   |dead=>exact absurd rfl yH
  ·have hF:Fs[n]? =some (Fs[n]'(by have:=(ANF.1 Yl).1;rw[hFs1.1];omega)):=AM4 _
   have dN:xQ E3 w n B2 c:=by
    cases B2 with
    |mem cs=>simp only[xQ]at hc⊢;rw[oL.IE];omega
    |sl d r rows=>grind[xQ]
    |dead=>exact hc
   rcases fN (hFs1.2 n B2 _ Yl hF) dN with hs|hs
   ·simp_all
   ·exact(AOj.1 hFs2.nodup).2.2 c (ASb.2 ⟨_,APx hF,hs⟩) bb (by simp[hbA]) e⟩
 refine⟨bb,o+i*q.n+j,E3,rfl,Vg (k:=0) n2 dv n3,?_,?_,?_⟩
 ·split at e3
  ·rename_i AaZ
   have h0:∀E0,Le E0 E3→(∀c,E0.S c→E0.T c)→Tg E0 w σ.bx E3 w' (bO.set b (.sl (m+1+p.length) r C0)):=by
    intro E0 hl st0;refine bu b (kT E0 hl) st0 (by simp[p8]) (fun n d r rows hn _ hq=>by
      grind) (fun _ _=>rfl) (fun _ _=>rfl) rfl rfl hww (fun d0 r0 TH hq=> ?_)
    rw[ASy (by omega)]at hq;simp only[ANB,Bx.sl.injEq]at hq;obtain⟨rfl,rfl,hq⟩:=hq;obtain rfl:=ASX hq;refine⟨d,rows,hb,fun p' hp' q' zs vz=> ?_⟩;rcases hrow with⟨_,hpf,_⟩|⟨t,y,hc1,ho4,Va,hsc⟩
    ·simp_all
    obtain⟨hs1,hs2⟩:=hsc AaZ;have hk:=mY hs1 hp hg hi Va e2 hp' q' zs vz;refine⟨hk.1,hk.2,fun hh hhe=> ?_⟩;rw[nL];rw[←hl.IF,nL]at hhe;refine sY (fun Ad=> ?_) (X_ f4) hk.1 hhe;by_cases eA:Ad.block=bb∧Ad.spot=none∧Ad.off=o+i*q.n+j
    ·right
     obtain⟨ab,ao,asp⟩:=Ad;simp only at eA;rw[eA.1,eA.2.1,eA.2.2];refine⟨v,?_,hs2⟩;have:=Oe (w:=w) (b:=bb) (o:=o+i*q.n+j) (vs:=v.cells.toList) n2 dv 0 v (by simp_all);omega
    grind[World.cell?_setCells_out,List.length_cons,List.length_nil]
   have:=finish id id (fun E0 hl st0 x v hx=>by rw[aj];grind[GS]) (fun x v hx=>by rw[aj];grind[PX]);grind[aj,List.map_id]
  ·have h0:∀E0,Le E0 E3→(∀c,E0.S c→E0.T c)→ ∀x v,VR E0 w σ.bx x v→VR E3 w' ((bO.map (Bx.map (J9 b))).set b (.sl (m+1+p.length) r C0)) (J9 b x) v:=by
    intro E0 hl st0 x v hx;have keep:Tg E0 w σ.bx E3 w' (((bO.map (Bx.map (J9 b))).set b (.sl (m+1+p.length) r C0)).set b .dead):=by
     refine bu b (kT E0 hl) st0 (by simp[p8]) (fun n d r rows hn _ hq=>by
      grind[List.getElem?_set_ne,AFV]) (fun _ _=>rfl) (fun _ _=>rfl) rfl rfl hww (fun d0 r0 TH hq=> ?_)
     simp_all
    exact ACo keep hb (by rw[ASy (by simp_all)]) hrl (by rw[hl.IF]) hx
   have:=finish (J9 b) (tf b) h0 (fun x v hx=>ADj (h0 E oL st) hx);grind[St.zg,mM,pj]
 ·rw[←e3]
  split
  all_goals grind[id,aj,St.zg,mM,pj]
 grind[St.zg]
end Go.Fw
end
section
namespace Go.Fw
theorem fR{w w':World}{B B':Nat→Prop}:∀{r:Ty} {cs:List Value} {x:r.D},r.flat=true→Rd w B r cs x→Rd w' B' r cs x
 | .cons c r,cs,x,h,hr=>by
  simp only[Ty.flat,ANN]at h;simp only[Rd]at hr⊢;obtain⟨v,l,rfl,h1,h2⟩:=hr;exact⟨v,l,rfl,fR h.1 h1,fR h.2 h2⟩
 | .unit,_,_,_,hr=>by grind[Rd]
 | .int k,_,_,_,hr=>by grind[Rd]
 | .bool,_,_,_,hr=>by grind[Rd]
 | .str,_,_,_,hr=>by grind[Rd]
 | .sl q,_,_,h,_=>by simp[Ty.flat]at h
theorem eC{w:World}{S:Nat→Prop}{d:Nat}:∀{r:Ty} {cs:List Value} {y:r.D} {F:ABG},r.flat=true→Ow w S d r cs y F→F=[]
 | .int k,_,_,_,_,h=>by grind[Ow]
 | .bool,_,_,_,_,h=>by grind[Ow]
 | .str,_,_,_,_,h=>by grind[Ow]
 | .unit,_,_,_,_,h=>by grind[Ow]
 | .cons c r,_,_,_,hf,h=>by
  simp only[Ty.flat,ANN]at hf;simp only[Ow]at h;obtain⟨v,l,F1,F2,_,rfl,h1,h2⟩:=h;rw[eC hf.1 h1,eC hf.2 h2];rfl
 | .sl q,_,_,_,hf,_=>by simp[Ty.flat]at hf
theorem wQ{w w':World}{S S':Nat→Prop}{d d':Nat}{r:Ty}(hr:r.flat=true){cs:List Value}{y:r.D}{F:ABG}(h:Ow w S d r cs y F):F=[]∧cs.length=r.n∧Ow w' S' d' r cs y []:=
 ⟨eC hr h,Yc h,js hr (fR (B':=fun _=>False) hr (X_ h))⟩
theorem jZ:∀{r:Ty} {j:Nat} {x:r.D} {t:Ty} {y:t.D},r.flat=true→BN r j x=some ⟨t,y⟩→t.flat=true
 | .cons c r,0,x,t,y,h,e=>by
  simp only[Ty.flat,ANN]at h;simp only[BN,ANB,AOQ]at e;simp_all
 | .cons c r,j+1,x,t,y,h,e=>by
  simp only[Ty.flat,ANN]at h;simp only[BN]at e;exact jZ h.2 e
 | .unit,_,_,_,_,_,e=>by simp[BN]at e
 | .int k,0,x,t,y,_,e=>by simp only[BN,ANB,AOQ]at e;simp_all
 | .bool,0,x,t,y,_,e=>by simp only[BN,ANB,AOQ]at e;simp_all
 | .str,0,x,t,y,_,e=>by simp only[BN,ANB,AOQ]at e;simp_all
 | .sl _,_,_,_,_,h,_=>by simp[Ty.flat]at h
 | .int _,_+1,_,_,_,_,e=>by simp[BN]at e
 | .bool,_+1,_,_,_,_,e=>by simp[BN]at e
 | .str,_+1,_,_,_,_,e=>by simp[BN]at e
theorem ACI{r:Ty}(hr:r.flat=true){rows:List r.D}:∀{p:List Xb},DE r rows p→p=[]
 |[],_=>rfl
 |s::p,h=>by
  simp only[DE]at h;obtain⟨_,_,h⟩:=h;exfalso;cases hc:BN r s.j (rowAt r rows s.i)with
  |none=>simp_all
  |some tx=>
   obtain⟨t,x⟩:=tx;have hf:=jZ hr hc;grind[Ty.flat]
theorem flatten_nil{l:List ABG}(h:∀x∈l,x=[]):l.flatten=[]:=by
 simp_all;omega
theorem ABI{E:Env}{σ:St}{a:Act}{w:World}(h:Rel E σ a w){b d off n:Nat}{r:Ty}{rows:List r.D}(hb:σ.bx[b]? =some (.sl d r rows))(hr:r.flat=true)(hgd:r.tX=true)(hk:0<r.n)(hl:off+n≤rows.length)(hn:0<n):
  ∃bb o cap,E.IF b= .slice (some ⟨bb,o,none⟩) rows.length cap∧rows.length≤cap∧w.there bb (o+off*r.n) (n*r.n)∧
   Rel E { σ with bx:=σ.bx.set b (.sl d r ((rows.take off++List.replicate n r.z)++rows.drop (off+n))) } a (w.setCells bb (o+off*r.n) (List.replicate n (Ej r)).flatten)∧
   SD [b] E σ.bx w E (σ.bx.set b (.sl d r ((rows.take off++List.replicate n r.z)++rows.drop (off+n)))) (w.setCells bb (o+off*r.n) (List.replicate n (Ej r)).flatten):=by
 have st:=h.bx.st;obtain⟨F,⟨hd,ho⟩,hB⟩:=h.bx.take hb;simp only[AOC]at hB;have G4:=(ANF.1 hb).1;obtain⟨d',rfl⟩:∃m,d=m+1:=⟨d-1,by omega⟩;simp only[Ow]at ho;obtain⟨ad,cap,hh,yB,ho⟩:=ho;simp only[AR6,ASq]at hh;rcases ho with⟨rfl,_⟩|⟨bb,o,arr,ty,fr,Fs,rfl,ha,P5,hu,rfl,hFl,cc⟩
 ·omega
 have hFn:List.flatten Fs=[]:=flatten_nil fun x hx=>by
  obtain⟨i,hi,hxi⟩:=ASe hx;obtain⟨cs,_,_,h3⟩:=cc i (rows[i]'(by omega)) x (AM4 _) (by grind);exact(wQ (w':=w) (S':=E.S) (d':=0) hr h3).1
 rw[hFn]at hB;have hzl:(Ej r).length=r.n:=Gy r;have hvl:((List.replicate n (Ej r)).flatten).length=n*r.n:=by simp_all
 have hm1:(off+n)*r.n≤cap*r.n:=APC _ (by omega);have hm2:(off+n)*r.n=off*r.n+n*r.n:=ASz ..;have dv:o+off*r.n+((List.replicate n (Ej r)).flatten).length≤arr.size:=by omega
 generalize Wl:(List.replicate n (Ej r)).flatten=vs at hvl dv
 refine⟨bb,o,cap,hh,yB,Vg ha (by omega) hu,?_⟩;have c_: ¬E.T bb:=hB.AFI _ (by simp);have hB0:=hB;have ed:∀c,c≠bb→(w.setCells bb (o+off*r.n) vs).heap[c]? =w.heap[c]?:=fun c hc=>DR _ _ _ _ _ hc
 have hw:∀c,c<w.heap.size→c∉[bb]→(w.setCells bb (o+off*r.n) vs).heap[c]? =w.heap[c]?:=fun c _ hc=>ed c (by simp_all)
 have kT:HJ E w σ.bx σ.bx [] E (σ.bx.set b .dead) [bb]:=⟨Le.refl _,by simp,fun n B hn=>by
  grind,by simp_all⟩
 generalize AOa:(rows.take off++List.replicate n r.z)++rows.drop (off+n)=C0
 have AWS:C0.length=rows.length:=by
  grind
 have keep:Tg E w σ.bx E (w.setCells bb (o+off*r.n) vs) (σ.bx.set b (.sl (d'+1) r C0)):=bu b kT st (by simp) (fun n d r rows hn _ hq=>by
   grind) (fun _ _=>rfl) (fun _ _=>rfl) rfl rfl hw (fun d1 r1 AMb hq=>by
   rw[ASy G4]at hq;simp only[ANB,Bx.sl.injEq]at hq;obtain⟨rfl,rfl,hq⟩:=hq;obtain rfl:=ASX hq;refine⟨d'+1,rows,hb,fun p hp q ys hg=> ?_⟩;obtain rfl:=ACI hr hp;simp only[HE,ANB,AOQ]at hg;obtain⟨rfl,hg⟩:=hg;obtain rfl:=ASX hg;exact⟨by simp[DE],⟨C0,by rfl,AWS⟩,fun h' hh' =>hh'⟩)
 refine⟨⟨h.OO,h.tm.imp fun _ _ hq=>PX keep hq,?_⟩,⟨⟨fun _ h=>h,fun _ h=>h,fun _ h=> .inl h,fun _ h=> .inl h,fun c hc=>ed c (fun e=>c_ (e▸hc)),(B9 _ _ _ _).os,(B9 _ _ _ _).tape,(B9 _ _ _ _).output,(B9 _ _ _ _).size⟩,by simp,fun _ _=>⟨rfl,rfl⟩,fun n hn=>by
  grind,fun n B B' q9 hB UA yH=>by
  simp at q9;rw[ASc (fun e=>q9 e.symm),hB]at UA;cases UA;refine⟨Vy.refl yH,fun c hc=>ed c (fun e=> ?_)⟩;obtain⟨Fs,⟨f1,f2⟩,f3⟩:=hB0;have Yl:(σ.bx.set b .dead)[n]? =some B:=by grind
  have hF:Fs[n]? =some (Fs[n]'(by grind)):=AM4 _;rcases fN (f2 n B _ Yl hF) hc with hs|hs
  ·simp_all
  ·exact(AOj.1 f3.nodup).2.2 c (ASb.2 ⟨_,APx hF,hs⟩) bb (by simp) e⟩⟩
 have hT:=hB.turn (E':=E) (w':=w.setCells bb (o+off*r.n) vs) (vw':=σ.bx.set b (.sl (d'+1) r C0)) (fun x v hq=>GS keep hq) (fun _ h=>h) (fun _ _=>rfl) (fun _ _=>rfl) (fun c hc _=>ed c (fun e=>by
   simp_all)) (fun F hF=>⟨hF.nodup,hF.free,fun c hc=>by rw[Da];exact hF.lt c hc,hF.st,fun c hc=>by rw[Da];exact hF.dV c hc⟩)
 have AE6:ou E (w.setCells bb (o+off*r.n) vs) (σ.bx.set b (.sl (d'+1) r C0)) b (.sl (d'+1) r C0) [bb]:=by
  refine⟨hd,?_⟩;simp only[Ow];refine⟨_,cap,by simp_all,by omega,.inr ⟨bb,o,FM arr (o+off*r.n) vs,ty,fr,List.replicate C0.length [],rfl,Fm _ _ _ _ _ _ _ ha,by rw[Fl];omega,by rw[Fl];omega,by simp,by simp,fun i y G hy hG=> ?_⟩⟩;have hG':G=[]:=AS9 (APx hG);subst hG';have hil:i<rows.length:=by grind
  by_cases Te:off≤i∧i<off+n
  ·have hyz:y=r.z:=by
    grind
   subst hyz;refine⟨Ej r,hzl,fun j v hj=> ?_,fD hgd⟩;have xR:j<r.n:=by grind
   have e1:(i-off)*r.n=i*r.n-off*r.n:=AU5 ..;have e2:off*r.n≤i*r.n:=APC _ Te.1;have e3:(i-off+1)*r.n≤n*r.n:=APC _ (by omega);rw[ASz,Nat.one_mul]at e3;have:=Oe ha dv ((i-off)*r.n+j) v (by
    grind[OA,Nat.mul_comm,Nat.mul_add_mod,Nat.mod_eq_of_lt])
   grind
  ·have hyo:rows[i]? =some y:=by
    rw[←AOa]at hy;by_cases h1:i<off
    ·grind
    grind[List.getElem?_append_right]
   obtain⟨cs,c1,c2,c3⟩:=cc i y (Fs[i]'(by omega)) hyo (AM4 _);obtain⟨_,c4,c5⟩:=wQ (w':=w.setCells bb (o+off*r.n) vs) (S':=E.S) (d':=d') hr c3;refine⟨cs,c4,U0 c2 ha dv (.inr ?_),c5⟩;by_cases h1:i<off
   ·have:(i+1)*r.n≤off*r.n:=APC _ h1
    grind
   grind
 have:=C8.put (b:=b) (B:= .sl (d'+1) r C0) (F:=[bb]) (G:=[]) (by simpa using hT) (by simp_all) AE6;simp_all
section
variable{Y:Type} {P:Program} {T:J8} (hT:Ei P T) {o:Oper} {E:Env} {σ:St} {a:Act} {w:World} {k:K Y} {y:Y}
include hT
theorem xi(h:Rel E σ a w){c:Call}{x:XV}(ho:o.op= .call c)(hc:c.callee= .builtin .clear)(Is:c.args.toList.map σ.ev=[x])(e:lP T c.argTypes σ x k=some y)
  (AX_:∀b p off n,x= .c (.win b p off n)→Kl (fun _=>none) σ o.op=[b]):∃v w' E' xv σ',((execOp a.eval o).run P w= .ok (.value v) w'∨((execOp a.eval o).run P w= .ok .skip w'∧v=undef))∧Rel E' σ' a w'∧XR E' w' σ'.bx xv v∧
   SD (Kl (fun _=>none) σ o.op) E σ.bx w E' σ'.bx w'∧σ'.tm.length=σ.tm.length∧k xv σ' =some y:=by
 obtain⟨o1,hargs',rfl⟩:=YH Is;have cm:=h.ev o1;unfold lP at e;split at e
 case h_2=>cases e
 rename_i t b off n ht hx;rw[hx]at cm;rw[AX_ b [] off n hx];split at e
 case h_2=>cases e
 rename_i d r rows hb;split at e
 case isFalse=>cases e
 rename_i Vb;rw[ANN]at Vb;obtain⟨Vb,hr⟩:=Vb;rw[ANN,AOH]at hr;obtain⟨hr,hk⟩:=hr;obtain⟨el,ti,hu,Vr,hs,hby,hrow⟩:=K7 hT Vb;obtain⟨i,z,i1,i2,i3,i4,i5,hg⟩:=XZ hT Vr hrow;have bB:VR E w σ.bx (.win b [] off n) (a.eval o1):=cm;simp only[VR,hb]at bB;obtain⟨_,_,q,ys,ad,len,cap,hgp,hl,hh,hv⟩:=bB;simp only[HE,ANB,AOQ]at hgp;obtain⟨rfl,hgp⟩:=hgp;obtain rfl:=ASX hgp;simp only[JH,ANB]at hh;by_cases hn:n=0
 ·subst hn
  have AVU:(rows.take off++List.replicate 0 r.z)++rows.drop (off+0)=rows:=by simp
  rw[AVU]at e;have Va:σ.bx.set b (.sl d r rows)=σ.bx:=by
   apply AUY;grind
  rw[Va]at e;refine⟨.tuple #[],w,E,.c .undef,σ,.inl ?_,h,trivial,SD.refl _ _ _ _,rfl,e⟩;have hz:∃a' c',a.eval o1= .slice a' 0 c':=⟨_,_,by rw[hv];rfl⟩;obtain⟨a',c',hz⟩:=hz;simp only[execOp,ho,resolve,hc,hargs',invoke,builtin,Sem.run_bind,Sem.run_pure,Result.andThen_ok,List.map_toArray,ATB,AVg,Builtin.clear_,ht,hz];cases a'<;>simp[BV hu]
 ·obtain⟨bb,oo,cap',g1,g2,g3,g4,g5⟩:=ABI h (d:=d) hb hr hg hk hl (by omega)
  rw[g1]at hh;simp only[Value.slice.injEq]at hh;obtain⟨rfl,rfl,rfl⟩:=hh;have ZL:a.eval o1= .slice (some ⟨bb,oo+off*r.n,none⟩) n (cap'-off):=by
   rw[hv];unfold WH;rw[AM2 (by omega)];simp[Addr.add]
  refine⟨.tuple #[],_,E,.c .undef,_,.inl ?_,g4,trivial,g5,rfl,e⟩;have hz:(Builtin.zeroCells z.cells n).toList=(List.replicate n (Ej r)).flatten:=by
   grind[Builtin.zeroCells,Ej,Wx,Gy]
  have h1:∀v∈(List.replicate n (Ej r)).flatten,v.oneCell' =true:=fun v hv=>by
   obtain⟨l,hl1,vE⟩:=ASb.1 hv;rw[AS9 hl1]at vE;exact lk (w:=w) (S:=E.S) (d:=0) (fD hg) v vE
  have hvl:((List.replicate n (Ej r)).flatten).length=n*r.n:=by rw[HI,Gy]
  have rA:=run_storeCells_cells (P:=P) bb (oo+off*r.n) (List.replicate n (Ej r)).flatten 0 w (fun j hj=>by simpa using(g3 j (by omega)).1) (fun j hj=>by simpa using(g3 j (by omega)).2) h1;rw[ATG]at rA;obtain⟨n',rfl⟩:∃n',n=n'+1:=⟨n-1,by omega⟩;simp only[execOp,ho,resolve,hc,hargs',invoke,builtin,Sem.run_bind,Sem.run_pure,Result.andThen_ok,List.map_toArray,ATB,AVg,Builtin.clear_,ht,ZL];simp[BV hu,zeroValue,typeInfo,i1,i4,hz,rA]
end
end Go.Fw
end
section
namespace Go.Fw
theorem oQ{E:Env}{w:World}{vw:List Bx}:∀{l:List XV} {bs:ABG} {vs:List Value},wO l=some bs→CW (XR E w vw) l vs→(∀b∈bs,b<vw.length)∧vs=bs.map fun b=>Value.pointer (some ⟨E.IE b,0,none⟩)
 |[],bs,vs,e,h=>by
  simp only[wO,ANB]at e;subst e;cases vs with
  |nil=>simp_all
  |cons _ _=>exact h.elim
 |x::l,bs,vs,e,h=>by
  unfold wO at e;split at e
  ·simp_all
  ·rename_i b l' heq
   cases heq;simp only[AND]at e;obtain⟨r,e1,rfl⟩:=e;cases vs with
   |nil=>exact h.elim
   |cons v vs=>
    obtain⟨h1,h2⟩:=h;obtain⟨k1,k2⟩:=oQ e1 h2;obtain⟨h3,h4⟩:b<vw.length∧v= .pointer (some ⟨E.IE b,0,none⟩):=h1;simp_all
  simp_all
theorem evs{E:Env}{σ:St}{a:Act}{w:World}(h:Rel E σ a w):∀l:List Operand,CW (XR E w σ.bx) (l.map σ.ev) (l.map a.eval)
 |[]=>trivial
 |x::l=>⟨h.ev x,evs h l⟩
theorem zJ{E:Env}{σ:St}{a:Act}{w:World}(h:Rel E σ a w):∀o:Option Operand,OR E w σ.bx (o.map σ.ev) (o.map a.eval)
 |none=>trivial
 |some x=>h.ev x
theorem vj{w:World}{S:Nat→Prop}:∀{p:List Xb} {d:Nat} {r:Ty} {h:Value} {rows:List r.D} {F:ABG} {q:Ty} {ys:List q.D} {v:Value},Ow w S d (.sl r) [h] rows F→DE r rows p→
  HE r rows p=some ⟨q,ys⟩→d≤p.length→JH w h p=some v→Rd w S (.sl q) [v] ys
 |p,0,r,h,rows,F,q,ys,v,ho,hp,hg,_,hv=>by
  simp only[Ow]at ho;obtain⟨h',k,hr⟩:=oE ho.1 hp hg;simp_all
 |[],d+1,r,h,rows,F,q,ys,v,ho,hp,hg,hd,hv=>by simp_all
 |s::p,d+1,r,h,rows,F,q,ys,v,ho,hp,hg,hd,hv=>by
  simp only[DE]at hp;obtain⟨hi,P5,hp⟩:=hp;simp only[HE]at hg;obtain⟨a,len,cap,rfl⟩:∃a len cap,h= .slice a len cap:=by
   have:=ho;simp only[Ow]at this;grind
  split at hg
  case h_2=>cases hg
  rename_i q' x' gp;rw[gp]at hp;obtain⟨b,o,arr,ty,fr,cs,G,R,rfl,hb,hu,hbd,c1,c2,c3,o_,hback⟩:=ug ho hi;obtain⟨u,A1,A2,k1,k2,k3,k4⟩:=ey c3 gp;simp only[JH]at hv;rw[P5,c2 _ _ k1]at hv;exact vj k2 hp hg (by simp_all) hv
theorem yZ{E:Env}{σ:St}{a:Act}{w:World}(h:Rel E σ a w){b i sz j:Nat}{p:List Xb}{va v:Value}(hva:VR E w σ.bx (.Jn b p i sz j) va){x:XV}(hv:XR E w σ.bx x v)(h1c:∀u∈v.cells.toList,u.oneCell' =true)
  {σ':St} (e:L8 σ (.c (.Jn b p i sz j)) x=some σ'):
  ∃bb oo E',va= .pointer (some ⟨bb,oo,none⟩)∧w.there bb oo v.cells.toList.length∧Rel E' σ' a (w.setCells bb oo v.cells.toList)∧SD [b] E σ.bx w E' σ'.bx (w.setCells bb oo v.cells.toList)∧σ'.tm.length=σ.tm.length:=by
 unfold L8 bD at e;split at e
 ·rename_i b0 _ _ _ _ b' s p' off n heq
  cases heq;split at e
  case isFalse=>cases e
  rename_i hbb;subst hbb;split at e
  case h_2=>cases e
  rename_i d r rows hb;simp only[ANU,AND]at e;obtain⟨q,⟨⟨q0,ys⟩,hg,rfl⟩,e⟩:=e;dsimp only at e;have G4:=(ANF.1 hb).1;obtain⟨F,⟨hd1,ho⟩,hB⟩:=h.bx.take hb;obtain⟨A,W,pF,ho2⟩:=KY (d:=min d (p'.length+1)) (by omega) ho;have Yl:=hB.perm (G':=A++W++[]) (by simp_all);obtain⟨hle,hB3⟩:=Yl.share
  generalize hE1:({ E with S:=fun c=>E.S c∨c∈W,T:=fun c=>E.T c∨c∈W }:Env)=E1 at hle hB3
  have ho3:Ow w E1.S (min d (p'.length+1)) (.sl r) [E1.IF b'] rows A:=by
   rw[hle.IF];grind
  have hB4:=hB3.put (b:=b') (B:= .sl (min d (p'.length+1)) r rows) (by simp_all) ⟨by omega,ho3⟩;rw[AW6]at hB4;have hk:Tg E w σ.bx E1 w (σ.bx.set b' (.sl (min d (p'.length+1)) r rows)):=by
   refine⟨by simp,fun _ _=>by rw[hle.IE],hle.T,hle.S,h.bx.st,fun _ _=>rfl,fun c d' r' C0 hc e=> ?_⟩;by_cases hcb:b' =c
   ·subst hcb
    rw[ASy G4]at e;simp only[ANB,Bx.sl.injEq]at e;obtain⟨rfl,rfl,e⟩:=e;obtain rfl:=ASX e;exact⟨d,rows,hb,fun p hp q ys hg=>⟨hp,⟨ys,hg,rfl⟩,fun h' hh=>by rw[hle.IF];omega⟩⟩
   ·rw[ASc hcb]at e
    exact⟨d',C0,e,fun p hp q ys hg=>⟨hp,⟨ys,hg,rfl⟩,fun h' hh=>by rw[hle.IF];omega⟩⟩
  have cm:VR E w σ.bx (.win b' (s::p') off n) v:=hv;have bB:XR E1 w (σ.bx.set b' (.sl (min d (p'.length+1)) r rows)) (.c (.sl true q0 ((ys.drop off).take n))) v:=by
   simp only[VR,hb]at cm;obtain⟨_,hp,q1,ys1,a1,len,cap,g1,g2,g3,rfl⟩:=cm;rw[hg]at g1;simp only[ANB,AOQ]at g1;obtain⟨rfl,g1⟩:=g1;obtain rfl:=ASX g1;have:=vj ho3 hp hg (by grind) (by rw[hle.IF];omega);exact yk this g2
  have hr:Rel E1 { σ with bx:=σ.bx.set b' (.sl (min d (p'.length+1)) r rows) } a w:=
   ⟨h.OO,h.tm.imp fun _ _ hx=>PX hk hx,hB4.turn (E':=E1) (w':=w) (fun _ _ hv=>GS ⟨by simp,fun _ _=>rfl,fun _ h=>h,fun _ h=>h,hB3.st,fun _ _=>rfl,fun c d' r' C0 hc e=>by
    grind⟩ hv) (fun _ h=>h) (fun _ _=>rfl) (fun _ _=>rfl) (fun _ _ _=>rfl) fun F hF=>hF⟩
  obtain⟨bb,oo,E',q1,q2,q3,q4,q5⟩:=sD hr (GS hk hva) bB h1c e;refine⟨bb,oo,E',q1,q2,q3,⟨(hle.base w).trans q4.base,by simpa using q4.len,fun c hc=> ?_,fun c hc=> ?_,fun c B B' hct hB UA hd=> ?_⟩,q5⟩
  ·have:=q4.ids c (by simp_all)
   exact⟨this.1.trans (by rw[hle.IE]),this.2.trans (by rw[hle.IF])⟩
  ·refine q4.dead c ?_
   grind
  ·have hcb:b'≠c:=fun e=>hct (by simp[e])
   obtain⟨f1,f2⟩:=q4.frame c B B' hct (by simp_all) UA hd;refine⟨f1,fun c' dN=>f2 c' ?_⟩;cases B with
   |mem cs=>exact dN.trans (by rw[hle.IE])
   |sl d0 r0 TH=>simp only[xQ]at dN⊢;rw[hle.IF];omega
   |dead=>exact dN
 grind[sD]
def pL:Op→Bool
 | .call { callee:= .value _,.. }=>true
 |_=>false
section
variable{Y:Type} {P:Program} {T:J8} (hT:Ei P T) {o:Oper} {E:Env} {σ:St} {a:Act} {w:World} {k:K Y} {y:Y}
include hT
theorem yY(h:Rel E σ a w){t:TypeId}{oa ox:Operand}(ho:o.op= .store t oa ox){ti:TI}(Vr:T.get t=some ti)
  (hc:(σ.ev ox).cells.length=ti.size∧ti.size≠0∧(σ.ev ox).cells.all AV.known=true) {σ':St} (hs:L8 σ (σ.ev oa) (σ.ev ox)=some σ') (e:k (.c .undef) σ' =some y):Lw P o E σ a w k y:=by
 obtain⟨c1,c2,c3⟩:=hc;have ea:(σ.ev ox).cells≠[]:=fun hh=>by simp_all
 obtain⟨Wl,h1c⟩:=pR (h.ev ox) c3 ea;have hlen:(a.eval ox).cells.toList.length=ti.size:=by rw[←CW.len Wl];omega
 have hi:(P.info? t).map (·.size)=some (a.eval ox).cells.toList.length:=by grind[Ei.size]
 have hva:=h.ev oa;have fin:∀{bb oo:Nat} {E':Env},a.eval oa= .pointer (some ⟨bb,oo,none⟩)→w.there bb oo (a.eval ox).cells.toList.length→Rel E' σ' a (w.setCells bb oo (a.eval ox).cells.toList)→
   SD (Kl (fun _=>none) σ o.op) E σ.bx w E' σ'.bx (w.setCells bb oo (a.eval ox).cells.toList)→σ'.tm.length=σ.tm.length→Lw P o E σ a w k y:=by
  intro bb oo E' e1 e2 e3 e4 e5;have hr:=mv (P:=P) e2 hi h1c;refine⟨undef,_,E',.c .undef,σ',.inr ⟨?_,rfl⟩,e3,trivial,e4,e5,e⟩;grind[execOp,Sem.run_bind,Result.andThen_ok,Sem.run_pure]
 generalize hxa:σ.ev oa=xa at hs hva
 cases xa with
 |agg l=>simp[L8,bD,hI]at hs
 |M3 l=>simp[L8,bD,hI]at hs
 |c x=>
  cases x with
  |Ik b j=>
   simp only[L8,bD,AN0,hI]at hs;split at hs
   case h_2=>cases hs
   rename_i cs hb;simp only[AND]at hs;obtain⟨eD,hs,rfl⟩:=hs;have Aao:b<σ.bx.length∧a.eval oa= .pointer (some ⟨E.IE b,j,none⟩):=hva;obtain⟨q1,q2,q3⟩:=AA7 h hb Wl ea hs;exact fin Aao.2 q1 q2 (by grind[Kl]) rfl
  |Jn b p i sz j=>
   obtain⟨bb,oo,E',q1,q2,q3,q4,q5⟩:=yZ h hva (h.ev ox) h1c hs;grind[Kl]
  |_=>simp[L8,bD,hI]at hs
omit hT in
theorem vq(h:Rel E σ a w){x:Operand}(ho:o.op= .assign x)(e:bj σ (σ.ev x) k=some y):Lw P o E σ a w k y:=by
 have hr:(execOp a.eval o).run P w= .ok (.value (a.eval x)) w:=by simp only[execOp,ho,Sem.run_pure]
 have hv:=h.ev x;unfold bj at e;split at e
 ·rename_i b off n hx
  rw[hx]at hv;simp only[ANU]at e;obtain⟨⟨r,rows,bx,d⟩,e1,e⟩:=e;dsimp only at e;have ZL:VR E w σ.bx (.win b [] off n) (a.eval x):=hv;obtain⟨hd,F1,F2,k1,ho1⟩:=gJ h.bx (FP.refl _) ZL e1;obtain⟨Fs0,hB1,Yl⟩:=k1.boxes;simp only[AOC]at Yl;have nd:=(AOj.1 (AOj.1 Yl.nodup).2.1).1;obtain⟨r1,r2,r3⟩:=UZ h k1 (w':=w) hd ho1 (fun c hc=> .inl (AOk.2 (.inl hc))) nd (fun c hc=>Yl.lt c (by simp[hc])) (fun _ _ _=>rfl) ⟨rfl,rfl,rfl,AQQ _⟩;exact⟨_,_,_,_,_,.inl hr,r1,r3,r2.any,rfl,e⟩
 ·exact Lw.same h hr hv e
theorem AB5{Γ:Nat→Option QJ}(h:Rel E σ a w)(e:YR T Γ o σ k=some y)(sH:pL o.op=false):Lw P o E σ a w k y:=by
 have same:∀{v:Value} {x:XV},(execOp a.eval o).run P w= .ok (.value v) w→XR E w σ.bx x v→k x σ=some y→Lw P o E σ a w k y:=fun h1 h2 h3=>Lw.same h h1 h2 h3
 obtain⟨Fs,hB,hS⟩:=h.bx;have st:=hS.st;unfold YR at e;split at e
 ·rename_i x ho
  exact same (v:=a.eval x) (by grind[execOp,Sem.run_pure]) (h.ev x) e
 ·grind[vq]
 ·rename_i c xa xb ho
  split at e
  case h_2=>cases e
  rename_i p hp;have hc:=h.ev c;rw[hp]at hc;have dN:=SK (E:=E) (w:=w) (vw:=σ.bx) hc;refine same (v:=if p then a.eval xa else a.eval xb) (x:=if p then σ.ev xa else σ.ev xb) (by simp[execOp,ho,dN,asBool]) (by cases p<;>simp[h.ev]) ?_
  grind[ADt]
 ·grind[y8]
 ·grind[AEH]
 ·grind[yR]
 ·grind[mj]
 ·rename_i t x ho
  split at e
  case h_2=>cases e
  rename_i z hz;obtain⟨u,h1,h2⟩:=wk hT hB st hz (h.ev x);grind[execOp,Sem.run_bind,Result.andThen_ok,Sem.run_pure]
 ·grind[yY]
 ·rename_i x ho
  have hx:=h.ev x;split at e
  ·rename_i b j hp
   rw[hp]at hx;have hx':b<σ.bx.length∧a.eval x= .pointer (some ⟨E.IE b,j,none⟩):=hx;grind[execOp,Sem.run_pure]
  ·rename_i b p i sz j hp
   rw[hp]at hx;have hpt:cy (a.eval x)=true:=hx.1;grind[cy,execOp,Sem.run_pure]
  ·rename_i s r z j hp
   rw[hp]at hx;obtain⟨bb,oo,cs,hv,hrest⟩:=hx;exact same (v:=a.eval x) (x:= .c (.P4 s r z j)) (by grind[execOp,Sem.run_pure]) ⟨bb,oo,cs,hv,hrest⟩ e
  ·rename_i f Ky hp
   rw[hp]at hx;have hx':(∀b∈Ky,b<σ.bx.length)∧a.eval x= .func (.func f) #[] (Ky.map fun b=>Value.pointer (some ⟨E.IE b,0,none⟩)).toArray:=hx;grind[execOp,Sem.run_pure]
  simp_all
 ·rename_i op t x z s ho
  obtain⟨r,val,h1,h2,h3⟩:=iT hT e (h.ev x) (h.ev z) x z;exact same (v:=val) (x:= .c r) (by
   simp only[execOp,ho,Sem.run_bind];simp_all) h3 h1
 ·rename_i op t x ho
  obtain⟨r,val,h1,h2,h3⟩:=kj (P:=P) e (h.ev x);exact same (v:=val) (x:= .c r) (by grind[execOp,Sem.run_bind,Result.andThen_ok,Sem.run_pure]) h3 h1
 ·grind[ABY]
 ·rename_i f first Ky ho
  split at e
  case isFalse=>cases e
  rename_i hf;split at e
  case h_2=>cases e
  rename_i bs hbs;obtain⟨q1,q2⟩:=oQ hbs (evs h Ky.toList);have AZu:first.map a.eval= #[]:=by
   simp_all
  have AcA:Ky.map a.eval=(bs.map fun b=>Value.pointer (some ⟨E.IE b,0,none⟩)).toArray:=by
   grind
  refine same (v:= .func (.func f) #[] (bs.map fun b=>Value.pointer (some ⟨E.IE b,0,none⟩)).toArray) ?_ (x:= .c (.fn f bs)) ⟨q1,rfl⟩ e
  grind[execOp,Instr.makeFunc,Sem.run_bind,Sem.run_pure,Result.andThen_ok]
 ·grind[AAe]
 ·rename_i t x lo hi ho
  obtain⟨z,val,h1,h2,h3⟩:=kD hT hB st e (h.ev x) (zJ h lo) (zJ h hi);grind[execOp,Sem.run_bind,Result.andThen_ok,Sem.run_pure]
 ·rename_i t x f ho
  split at e
  case h_2=>cases e
  rename_i z hz;obtain⟨u,h1,h2⟩:=j7 hT hz (h.ev x);grind[execOp,Sem.run_bind,Result.andThen_ok,Sem.run_pure]
 ·rename_i t x f ho
  split at e
  case h_2=>cases e
  rename_i z hz;obtain⟨u,h1,h2⟩:=mW hT hz (h.ev x);grind[execOp,Sem.run_bind,Result.andThen_ok,Sem.run_pure]
 ·rename_i t x i ho
  obtain⟨z,val,h1,h2,h3⟩:=jU hT hB st e (h.ev x) (h.ev i);grind[execOp,Sem.run_bind,Result.andThen_ok,Sem.run_pure]
 ·rename_i t x i ho
  obtain⟨z,val,h1,h2,h3⟩:=dH hT e (h.ev x) (h.ev i);grind[execOp,Sem.run_bind,Result.andThen_ok,Sem.run_pure]
 ·rename_i x i ho
  split at e
  case h_2=>cases e
  rename_i z hz;obtain⟨u,h1,h2⟩:=da (P:=P) hz (h.ev x);grind[execOp,Sem.run_bind,Result.andThen_ok,Sem.run_pure]
 ·rename_i f args rX ho
  rw[ho]at sH;cases sH
 ·rename_i args rX ho
  split at e
  ·rename_i s t Is hts
   obtain⟨x,rfl,hx⟩:=YH Is;have hv:=h.ev x;rw[hx]at hv;have ZL:=YA (E:=E) (w:=w) (vw:=σ.bx) hv;split at e
   case isFalse=>cases e
   rename_i hs;have hu:=Xu hT hs;refine same (v:= .int .i64 (s.length:Int)) (x:= .c (.v (.int .i64) (s.length:Int))) ?_ (VR.int (E:=E) (vw:=σ.bx) _ _) e
   have P5:(⟨s.toArray⟩:ByteArray).size=s.length:=by rfl
   simp[execOp,ho,resolve,invoke,builtin,Builtin.len_,hts,ZL,BV hu,goInt,P5]
  ·rename_i z t _ Is hts
   obtain⟨x,rfl,hx⟩:=YH Is;have hv:=h.ev x;rw[hx]at hv;split at e
   case isFalse=>cases e
   rename_i hs;split at e
   case h_2=>cases e
   rename_i n hn;obtain⟨el,hu⟩:=kI hT hs;obtain⟨ad,cap,ZL⟩:=mH hB st hn hv;refine same (v:= .int .i64 (n:Int)) (x:= .c (.v (.int .i64) (n:Int))) ?_ (VR.int (E:=E) (vw:=σ.bx) _ _) e
   simp[execOp,ho,resolve,invoke,builtin,Builtin.len_,hts,ZL,BV hu,goInt]
  simp_all
 ·rename_i args rX ho
  split at e
  case h_2=>cases e
  rename_i x1 x2 Is;exact vn hT h ho rfl Is e
 ·rename_i args rX ho
  split at e
  case h_2=>cases e
  rename_i x Is;exact xi hT h ho rfl Is e (fun b p off n hx=>by grind[Kl])
 ·rename_i args rX ho
  split at e
  case h_2=>cases e
  rename_i x1 x2 Is;obtain⟨o1,o2,rfl,hx1,hx2⟩:=YS Is;have cm:=h.ev o1;have bB:=h.ev o2;rw[hx1]at cm;rw[hx2]at bB;obtain⟨r,val,h1,h2,h3⟩:=Ue (P:=P) (big:=true) e cm bB rX #[] o.type;simp only[ASi]at h2;exact same (v:=val) (x:= .c r) (by simp[execOp,ho,resolve,invoke,builtin,h2]) h3 h1
 ·rename_i args rX ho
  split at e
  case h_2=>cases e
  rename_i x1 x2 Is;obtain⟨o1,o2,rfl,hx1,hx2⟩:=YS Is;have cm:=h.ev o1;have bB:=h.ev o2;rw[hx1]at cm;rw[hx2]at bB;obtain⟨r,val,h1,h2,h3⟩:=Ue (P:=P) (big:=false) e cm bB rX #[] o.type;simp only[ANw,AQS]at h2;exact same (v:=val) (x:= .c r) (by simp[execOp,ho,resolve,invoke,builtin,h2]) h3 h1
 simp_all
end
end Go.Fw
end
