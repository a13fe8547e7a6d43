/- The framework, part 1: a checked interpreter of the model's code over abstract states; no claim is made here. -/
import Derived.Calls
import Derived.Still
import Derived.Laws.World
import Derived.Laws.AppendOwn
import Derived.RowKit3
import Derived.Deep.MidRow
import Derived.Laws.StructEq
import Derived.Lib.ConvBytes
import Derived.Laws.BytesArg
import Derived.Tactics
import Derived.OrdersHeld
import Derived.ChangeArms
import Derived.ChangeOld
import Derived.DataReads
import Derived.Below
import Derived.Shelf.Spec.SlicesInsertGrow
import Derived.Shelf.Slices.Delete
set_option linter.unusedVariables false
set_option linter.unusedSimpArgs false
set_option linter.unusedSectionVars false
abbrev ACF:Type:=Int × Int × Bool × List UInt8 × Unit
abbrev AF9:Type:=List UInt8 × List Int × Bool × Unit
abbrev AEE:Type:=List Int × Bool × Int × Unit
abbrev AFk:Type:=Int × Int × List UInt8 × Unit
abbrev AF_:Type:=Int × List UInt8 × Bool × Unit
abbrev AAg:Type:=List Int
abbrev ADk:Type:=Unit × Int × Unit × Unit × Unit × Int × Unit × Unit × Unit × Unit × Bool × Unit
abbrev ABP:Type:=List Int × Int × Int × Unit
abbrev AAw:Type:=List Int × Int × Unit
abbrev AA4:Type:=Bool × Unit
abbrev AGB:Type:=Int × Bool × Int × Int × Bool × List UInt8 × Unit
abbrev AFz:Type:=Int × Int × Unit × Unit × Bool × Unit × Unit
abbrev ABI:Type:=Int × Int × Int × Int × List UInt8 × Unit
abbrev AGA:Type:=Unit × Unit × Int × Unit
abbrev ABD:Type:=Int × Unit
abbrev ABL:Type:=List Int × Unit
abbrev AAz:Type:=List Nat
abbrev AFs:Type:=Unit × Int × Unit
abbrev ABK:Type:=Unit × Unit
abbrev AFu:Type:=Int × Unit × Unit
abbrev AF2:Type:=Int × Int × Unit × Unit
abbrev ABR:Type:=Nat × Nat
abbrev AFr:Type:=Nat × List Nat
abbrev AF8:Type:=List UInt8 × Bool × Unit
abbrev AA_:Type:=List UInt8
abbrev AA2:Type:=Int × Int × List Int × List ACF × Bool × List AAg × Unit
abbrev ABG:Type:=List ACF × List ACF × Int × Unit
abbrev ABk:Type:=Int × Int × List AFk × Unit
abbrev ABE:Type:=Int × List AF9 × Unit
abbrev AAh:Type:=List ACF
abbrev AAi:Type:=List AEE
abbrev AAm:Type:=List AF_
abbrev ABB:Type:=List AEE × Int × Unit
abbrev AGC:Type:=ADk × Int × Unit
abbrev AA9:Type:=List AF9
abbrev ABr:Type:=ABP × Unit
abbrev AGS:Type:=AGA × Bool × Unit
abbrev AGn:Type:=AFz × Bool × Unit
abbrev AD_:Type:=ABP × List Int × Unit
abbrev ACj:Type:=AFs × Unit
abbrev ACm:Type:=List AFk
abbrev ADj:Type:=AF2 × Unit
abbrev ADt:Type:=AGA × Unit
abbrev AGy:Type:=AFu × Bool × Unit
abbrev AGq:Type:=AFs × Bool × Unit
abbrev AFC:Type:=ABI × Unit
abbrev ADY:Type:=AFz × Unit
abbrev AD1:Type:=ADk × Unit
abbrev AF3:Type:=ADk × Unit × ADk × Unit
abbrev ACh:Type:=List AGB
abbrev AFR:Type:=AFu × Unit
abbrev AFv:Type:=ACF × Unit
abbrev AF0:Type:=ACF × Bool × Unit
abbrev AAj:Type:=List ABG
abbrev AAn:Type:=List ABE
abbrev AAv:Type:=List ABk
abbrev AAt:Type:=List AA2
abbrev AA7:Type:=List Int × Int × List ABG × List Int × List AEE × Int × List ABE × List AA2 × List ABk × List AF_ × Bool × Unit
abbrev ABU:Type:=AGC × Unit
abbrev ADd:Type:=List Int × AAh × List AAg × Unit
abbrev AC2:Type:=AAh × AAh × Unit
abbrev ACn:Type:=AGS × Unit
abbrev AD5:Type:=AGn × Unit
abbrev AF7:Type:=ABP × List Int × AAh × List AAg × Unit
abbrev AEP:Type:=ACm × Unit
abbrev AFg:Type:=AA9 × Unit
abbrev AFF:Type:=AAi × Unit
abbrev AF4:Type:=ABP × AAh × AAh × Unit
abbrev AFy:Type:=AGq × Unit
abbrev AFx:Type:=AGy × Unit
abbrev AFw:Type:=AAh × Unit
abbrev AF6:Type:=ABP × AA9 × Unit
abbrev AF5:Type:=ABP × AAi × Unit
abbrev ACL:Type:=List Int × AAj × List Int × AAi × AAn × AAt × AAv × AAm × Unit
abbrev AF1:Type:=List Int × AAj × Unit × AAi × AAn × AAt × AAv × AAm × List Int × Unit
abbrev AG0:=@List.getElem?_eq_some_iff
abbrev AG4:=@Bool.eq_false_or_eq_true
abbrev AG5:=@if_pos
abbrev AG7:=@List.getElem?_eq_getElem
abbrev AG9:=@Option.some.injEq
abbrev AHA:=@if_neg
abbrev AHE:=@Option.bind_some
abbrev AHF:=@Option.map_eq_some_iff
abbrev AHH:=@List.append_assoc
abbrev AHL:=@Option.bind_eq_some_iff
abbrev AHN:=@Bool.and_eq_true
abbrev AHR:=@List.getElem?_append_left
abbrev AHe:=@cond_false
abbrev AHi:=@List.getElem?_set_ne
abbrev AHl:=@decide_eq_true_eq
abbrev AHt:=@List.drop_eq_nil_of_le
abbrev AIB:=@Bool.false_eq_true
abbrev AIJ:=@List.nodup_append
abbrev AIK:=@List.length_cons
abbrev AIQ:=@Bool.not_true
abbrev AIf:=@List.mem_append
abbrev AIj:=@List.length_append
abbrev AIp:=@List.getElem?_set_self
abbrev AIs:=@List.append_nil
abbrev AIu:=@List.getElem_mem
abbrev AIv:=@List.mem_of_getElem?
abbrev AIw:=@List.getElem?_append_right
abbrev AIx:=@Sigma.mk.injEq
abbrev AIy:=@decide_eq_false
abbrev AIz:=@cond_true
abbrev AI0:=@Int.toNat_natCast
abbrev AI1:=@Bool.true_and
abbrev AI2:=@List.Perm.append_right
abbrev AI3:=@decide_eq_true
abbrev AI4:=@List.length_nil
abbrev AI5:=@List.mem_cons
abbrev AI6:=@List.eq_nil_of_length_eq_zero
abbrev AI7:=@Bool.not_eq_false'
abbrev AI8:=@List.mem_singleton
abbrev AI9:=@Bool.not_eq_true
abbrev AI_:=@List.Perm.append_left
abbrev AJA:=@List.perm_append_comm
abbrev AJB:=@List.mem_flatten
abbrev AJC:=@List.drop_zero
abbrev AJD:=@List.cons.injEq
abbrev AJE:=@eq_of_heq
abbrev AJF:=@List.nil_append
abbrev AJG:=@List.getElem?_map
abbrev AJH:=@Prod.mk.injEq
abbrev AJI:=@Nat.le_refl
abbrev AJJ:=@List.mem_or_eq_of_mem_set
abbrev AJU:=@if_false
abbrev AJW:=@Nat.lt_of_lt_of_le
abbrev AJZ:=@List.singleton_append
abbrev AJb:=@Int.tdiv_eq_ediv_of_nonneg
abbrev AJd:=@Nat.mul_le_mul_right
abbrev AJe:=@Nat.le_trans
abbrev AJl:=@List.length_filter_le
abbrev AJn:=@List.flatten_cons
abbrev AJp:=@Option.bind_assoc
abbrev AJq:=@List.all_eq_true
abbrev AJr:=@List.pairwise_cons
abbrev AJ6:=@beq_eq_false_iff_ne
abbrev AJ_:=@List.contains_eq_mem
abbrev AKF:=@Bool.false_or
abbrev AKN:=@List.getElem_of_mem
abbrev AKQ:=@List.eq_of_mem_replicate
abbrev AKW:=@List.getElem?_set
abbrev AKZ:=@Bool.or_eq_true
abbrev AKa:=@and_true
abbrev AKg:=@Bool.not_false
abbrev AKi:=@Nat.zero_add
abbrev AKk:=@Nat.add_mul
abbrev AKl:=@List.flatten_append
abbrev AKn:=@if_true
abbrev AKr:=@List.length_set
abbrev AKv:=@List.cons_append
abbrev AKw:=@decide_eq_false_iff_not
abbrev AK0:=@Option.isSome_none
abbrev AK1:=@beq_iff_eq
abbrev AK2:=@Bool.not_eq_true'
abbrev AK5:=@List.getElem?_eq_none
abbrev AK9:=@List.length_replicate
abbrev AK_:=@Option.getD_some
abbrev ALF:=@List.filter_cons
abbrev ALH:=@List.take_succ_eq_append_getElem
abbrev ALI:=@Int.tmod_eq_emod_of_nonneg
abbrev ALP:=@List.take_of_length_le
abbrev ALQ:=@Bool.and_true
abbrev ALT:=@Bool.false_and
abbrev ALW:=@Nat.add_zero
abbrev ALc:=@List.mem_map
abbrev ALn:=@Option.isSome_some
abbrev ALo:=@List.mem_cons_of_mem
abbrev ALp:=@List.all_cons
abbrev ALq:=@List.length_eq_zero_iff
abbrev ALr:=@Bool.eq_false_iff
abbrev ALs:=@Array.getD_eq_getD_getElem?
abbrev ALt:=@List.nodup_cons
abbrev ALu:=@List.getD_eq_getElem?_getD
abbrev ALv:=@List.getElem?_drop
abbrev ALw:=@List.set_cons_zero
abbrev ALx:=@List.pairwise_iff_getElem
abbrev ALy:=@List.ext_getElem?
abbrev ALz:=@List.mem_filter
abbrev AL0:=@Nat.le_of_lt
abbrev AL2:=@List.map_congr_left
abbrev AL3:=@Nat.add_assoc
abbrev AL4:=@List.map_cons
abbrev AL5:=@List.replicate_succ
abbrev AL6:=@List.getElem?_replicate
abbrev AL7:=@Array.length_toList
abbrev AL8:=@List.drop_length
abbrev AL9:=@Option.some.inj
abbrev AL_:=@List.map_map
abbrev AMA:=@List.length_map
abbrev AMB:=@List.set_append_right
abbrev AMC:=@List.pairwise_map
abbrev AMD:=@List.exists_cons_of_length_eq_add_one
abbrev AME:=@List.flatten_nil
abbrev AMF:=@List.set_set
abbrev AMG:=@Nat.sub_self
abbrev AMH:=@Nat.one_mul
abbrev AMI:=@Decidable.not_not
abbrev AMJ:=@List.contains_iff_mem
abbrev AMK:=@List.take_append_drop
abbrev AML:=@Nat.succ_mul
abbrev AMM:=@Nat.mod_eq_of_lt
abbrev AMN:=@List.mem_of_mem_take
abbrev AMO:=@List.mem_of_mem_drop
abbrev AMP:=@dite_true
abbrev AMQ:=@List.length_pos_iff
abbrev AMR:=@List.perm_iff_count
abbrev AMS:=@List.map_nil
abbrev AMU:=@List.Perm.refl
abbrev AMV:=@List.mapM_cons
abbrev AMW:=@List.take_zero
section
namespace Go.Fw
inductive Ty where
 |int (k:IntKind)|bool|str|sl (r:Ty)|unit|cons (c r:Ty)
 deriving DecidableEq
@[reducible] def Ty.D:Ty→Type
 | .int _=>Int
 | .bool=>Bool
 | .str=>List UInt8
 | .sl r=>List r.D
 | .unit=>Unit
 | .cons c r=>c.D×r.D
def Ty.n:Ty→Nat
 | .unit=>0
 | .cons _ r=>r.n+1
 |_=>1
def Ty.z:(t:Ty)→t.D
 | .int _=>(0:Int)
 | .bool=>false
 | .str=>[]
 | .sl _=>[]
 | .unit=>()
 | .cons c r=>(c.z,r.z)
def Ty.flat:Ty→Bool
 | .sl _=>false
 | .cons c r=>c.flat&&r.flat
 |_=>true
def Ty.scalar:Ty→Bool
 | .int _| .bool| .str=>true
 |_=>false
structure bE where
 i:Nat
 sz:Nat
 j:Nat
inductive AV where
 |v (t:Ty) (x:t.D)
 |sl (s:Bool) (r:Ty) (x:List r.D)
 |nil
 |ref (b:Nat) (p:List bE)
 |win (b:Nat) (p:List bE) (off n:Nat)
 |FY (b j:Nat)
 |Gd (b:Nat) (p:List bE) (i sz j:Nat)
 |KB (s:Bool) (r:Ty) (x:r.D) (j:Nat)
 |fn (f:Nat) (G6:AAz)
 |gf (f:Nat) (rows:List ((r:Ty)×r.D))
 |mT
 |undef
def AV.known:AV→Bool
 | .undef=>false
 |_=>true
inductive XV where
 |c (x:AV)
 |agg (l:List AV)
 |Ju (l:List (AV ⊕ List AV))
inductive Bx where
 |mem (cs:List AV)
 |sl (d:Nat) (r:Ty) (rows:List r.D)
 |dead
structure St where
 tm:List XV
 bx:List Bx
def Ai:(r:Ty)→(j:Nat)→r.D→Option ((t:Ty)×t.D)
 | .cons c _,0,x=>some ⟨c,x.1⟩
 | .cons _ r,j+1,x=>Ai r j x.2
 | .unit,_,_=>none
 | .int k,0,x=>some ⟨.int k,x⟩
 | .bool,0,x=>some ⟨.bool,x⟩
 | .str,0,x=>some ⟨.str,x⟩
 | .sl r,0,x=>some ⟨.sl r,x⟩
 |_,_+1,_=>none
def eU{a b:Ty}(h:a=b)(x:a.D):b.D:=h▸x
def Cb:(r:Ty)→(j:Nat)→r.D→(t:Ty)→t.D→Option r.D
 | .cons c _,0,x,t,y=>if h:t=c then some (eU h y,x.2)else none
 | .cons _ r,j+1,x,t,y=>(Cb r j x.2 t y).map fun z=>(x.1,z)
 | .unit,_,_,_,_=>none
 | .int k,0,_,t,y=>if h:t= .int k then some (eU h y)else none
 | .bool,0,_,t,y=>if h:t= .bool then some (eU h y)else none
 | .str,0,_,t,y=>if h:t= .str then some (eU h y)else none
 | .sl r,0,_,t,y=>if h:t= .sl r then some (eU h y)else none
 |_,_+1,_,_,_=>none
def rowAt(r:Ty)(rows:List r.D)(i:Nat):r.D:=rows.getD i r.z
def Ee:(r:Ty)→List r.D→List bE→Option ((q:Ty)×List q.D)
 |r,rows,[]=>some ⟨r,rows⟩
 |r,rows,s::p=>
  match Ai r s.j (rowAt r rows s.i)with
  |some ⟨.sl q,x⟩=>Ee q x p
  |_=>none
def ew:(r:Ty)→List r.D→List bE→(q:Ty)→List q.D→Option (List r.D)
 |r,_,[],q,y=>if h:q=r then some (eU (congrArg Ty.sl h) y)else none
 |r,rows,s::p,q,y=>
  match Ai r s.j (rowAt r rows s.i)with
  |some ⟨.sl r',x⟩=>(ew r' x p q y).bind fun x' =>(Cb r s.j (rowAt r rows s.i) (.sl r') x').map fun row=>rows.set s.i row
  |_=>none
inductive TD where
 |int (k:IntKind)|bool|str|sl (e:Nat)|st (fs:List ABR)|ptr (e:Nat)|other
structure TI where
 size:Nat
 bytes:Nat
 desc:TD
 row:Option Ty
abbrev G8:=List (Nat×TI)
def G8.get:G8→Nat→Option TI
 |[],_=>none
 |(u,i)::l,t=>if u=t then some i else G8.get l t
def TD.agg:TD→Bool
 | .st _=>true
 |_=>false
def G8.Yt(T:G8)(t:Nat):Option Ty:=
 match T.get t with
 |some ti=>ti.row
 |none=>none
def l9:Ty→AV
 | .int k=> .v (.int k) (0:Int)
 | .bool=> .v .bool false
 | .str=> .v .str []
 | .sl _=> .nil
 |_=> .undef
def U6:Ty→List AV
 | .cons c r=>l9 c::U6 r
 | .unit=>[]
 |t=>[l9 t]
def fC:Value→AV
 | .int k n=> .v (.int k) n
 | .bool b=> .v .bool b
 | .string s=> .v .str s.data.toList
 | .slice none 0 0=> .nil
 | .pointer none=> .mT
 |_=> .undef
def ofValue:Value→XV
 | .agg cs=> .agg (cs.toList.map fC)
 |v=> .c (fC v)
def St.ev(σ:St):Operand→XV
 | .tmp t=>σ.tm.getD t (.c .undef)
 | .const v=>ofValue v
 | .global _=> .c .undef
 | .func f=> .c (.fn f [])
def St.put(σ:St)(dst:Option Tmp)(x:XV):St:=
 match dst with
 |some d=>{ σ with tm:=σ.tm.set d x }
 |none=>σ
def XV.cells:XV→List AV
 | .c x=>[x]
 | .agg l=>l
 | .Ju _=>[]
def L0{β:Ty→Type}(a b:Ty)(x:β a):Option (β b):=if h:a=b then some (h▸x)else none
def Jc(bx:List Bx):AV→Option ((r:Ty)×List r.D)
 | .sl _ r x=>some ⟨r,x⟩
 | .ref b p=>
  match bx[b]? with
  |some (.sl _ r rows)=>Ee r rows p
  |_=>none
 | .win b p off n=>
  match bx[b]? with
  |some (.sl _ r rows)=>(Ee r rows p).map fun q=>⟨q.1,(q.2.drop off).take n⟩
  |_=>none
 |_=>none
def JC(bx:List Bx)(t:Ty)(x:AV):Option t.D:=
 match x with
 | .v u y=>L0 (β:=Ty.D) u t y
 | .nil=>match t with
  | .sl _=>some []
  |_=>none
 |x=>match t with
  | .sl r=>(Jc bx x).bind fun q=>L0 (β:=fun r=>List r.D) q.1 r q.2
  |_=>none
def Fe(bx:List Bx):(r:Ty)→List AV→Option r.D
 | .unit,[]=>some ()
 | .cons c r,x::l=>(JC bx c x).bind fun a=>(Fe bx r l).map fun b=>(a,b)
 |_,_=>none
def lenOf(bx:List Bx):AV→Option Nat
 | .nil=>some 0
 | .sl _ _ x=>some x.length
 | .ref b p=>
  match bx[b]? with
  |some (.sl _ r rows)=>(Ee r rows p).map fun q=>q.2.length
  |_=>none
 | .win b _ _ n=>
  match bx[b]? with
  |some (.sl _ _ _)=>some n
  |_=>none
 |_=>none
inductive AP where
 |v (t:Ty)
 |sl (s:Bool) (r:Ty)
 |nil
 |ref (i:Nat)
 |ptr (i j:Nat)
 |gF (r:Ty)
 |fn (f:Nat) (G6:AAz)
 |gf (f:Nat) (rs:List Ty)
 |any
 |aL (i sz:Nat)
inductive XP where
 |c (p:AP)
 |agg (l:List AP)
 |row (r:Ty)
 |Ju (l:List (AP ⊕ List AP))
inductive BP where
 |mem (l:List AP)
 |sl (d:Nat) (r:Ty)
 |gone
structure Bn where
 Co:List (Nat×XP)
 Ed:List BP
@[reducible] def S9:List Ty→Type
 |[]=>Unit
 |r::l=>r.D×S9 l
def S9.mk:(l:List Ty)→S9 l→List ((r:Ty)×r.D)
 |[],_=>[]
 |r::l,x=>⟨r,x.1⟩::S9.mk l x.2
@[reducible] def AP.V:AP→Type
 | .gf _ rs=>S9 rs
 | .v t=>t.D
 | .sl _ r=>List r.D
 | .gF r=>r.D
 | .aL _ _=>Nat×Nat
 |_=>Unit
@[reducible] def Rt.V:List AP→Type
 |[]=>Unit
 |p::l=>p.V×Rt.V l
@[reducible] def SM.V:List (AP ⊕ List AP)→Type
 |[]=>Unit
 | .inl p::l=>p.V×SM.V l
 | .inr q::l=>Rt.V q×SM.V l
@[reducible] def XP.V:XP→Type
 | .c p=>p.V
 | .agg l=>Rt.V l
 | .row r=>r.D
 | .Ju l=>SM.V l
@[reducible] def BP.V:BP→Type
 | .mem l=>Rt.V l
 | .sl _ r=>List r.D
 | .gone=>Unit
@[reducible] def Ej.V:List (Nat×XP)→Type
 |[]=>Unit
 |(_,p)::l=>p.V×Ej.V l
@[reducible] def GZ.V:List BP→Type
 |[]=>Unit
 |p::l=>p.V×GZ.V l
@[reducible] def Bn.V (s:Bn):Type:=Ej.V s.Co×GZ.V s.Ed
def AP.mk(m:Nat→Nat):(p:AP)→p.V→AV
 | .v t,x=> .v t x
 | .sl s r,x=> .sl s r x
 | .nil,_=> .nil
 | .ref i,_=> .ref (m i) []
 | .ptr i j,_=> .FY (m i) j
 | .gF r,x=> .KB false r x 0
 | .fn f G6,_=> .fn f (G6.map m)
 | .gf f rs,x=> .gf f (S9.mk rs x)
 | .any,_=> .undef
 | .aL i sz,k=> .ref (m i) [⟨k.1,sz,k.2⟩]
def Rt.mk(m:Nat→Nat):(l:List AP)→Rt.V l→List AV
 |[],_=>[]
 |p::l,x=>p.mk m x.1::Rt.mk m l x.2
def dk:(r:Ty)→r.D→List AV
 | .unit,_=>[]
 | .cons c r,x=>(match c,x.1 with
  | .sl q,y=>AV.sl false q y
  |c,y=> .v c y)::dk r x.2
 | .sl q,x=>[.sl false q x]
 | .int k,x=>[.v (.int k) x]
 | .bool,x=>[.v .bool x]
 | .str,x=>[.v .str x]
def SM.mk(m:Nat→Nat):(l:List (AP ⊕ List AP))→SM.V l→List (AV ⊕ List AV)
 |[],_=>[]
 | .inl p::l,x=> .inl (p.mk m x.1)::SM.mk m l x.2
 | .inr q::l,x=> .inr (Rt.mk m q x.1)::SM.mk m l x.2
def XP.mk(m:Nat→Nat):(p:XP)→p.V→XV
 | .c p,x=> .c (p.mk m x)
 | .agg l,x=> .agg (Rt.mk m l x)
 | .row r,x=> .agg (dk r x)
 | .Ju l,x=> .Ju (SM.mk m l x)
def BP.mk(m:Nat→Nat):(p:BP)→p.V→Bx
 | .mem l,x=> .mem (Rt.mk m l x)
 | .sl d r,x=> .sl d r x
 | .gone,_=> .dead
def Ej.mk(m:Nat→Nat):(l:List (Nat×XP))→Ej.V l→List XV→List XV
 |[],_,tm=>tm
 |(i,p)::l,x,tm=>Ej.mk m l x.2 (tm.set i (p.mk m x.1))
def GZ.mk(m:Nat→Nat):(l:List BP)→GZ.V l→List Bx
 |[],_=>[]
 |p::l,x=>p.mk m x.1::GZ.mk m l x.2
def Bn.st(s:Bn)(n:Nat)(x:s.V):St:=
 { tm:=Ej.mk id s.Co x.1 (List.replicate n (.c .undef)),bx:=GZ.mk id s.Ed x.2 }
abbrev K4:=List (Option Nat)
def K4.put(m:K4)(i b:Nat):Option K4:=
 match m[i]? with
 |some none=>if m.contains (some b)then none else some (m.set i (some b))
 |some (some b')=>if b' =b then some m else none
 |none=>none
def Uz:K4→List Nat→List Nat→Option K4
 |m,[],[]=>some m
 |m,i::is,b::bs=>(m.put i b).bind fun m=>Uz m is bs
 |_,_,_=>none
def AP.Jv(N:Nat)(m:K4):AP→AV→Option K4
 | .ref i,.ref b []=>m.put i b
 | .ref i,.nil=>m.put i (N+i)
 | .ref _,_=>none
 | .aL i sz,.ref b [s]=>if s.sz=sz then m.put i b else none
 | .aL _ _,_=>none
 | .ptr i j,.FY b j' =>if j=j' then m.put i b else none
 | .ptr _ _,_=>none
 | .fn f G6,.fn g bs=>if f=g then Uz m G6 bs else none
 | .fn _ _,_=>none
 | .nil,.nil=>some m
 | .nil,_=>none
 |_,_=>some m
def Rt.Jv(N:Nat):K4→List AP→List AV→Option K4
 |m,[],[]=>some m
 |m,p::l,x::xs=>(p.Jv N m x).bind fun m=>Rt.Jv N m l xs
 |_,_,_=>none
def SM.Jv(N:Nat):K4→List (AP ⊕ List AP)→List (AV ⊕ List AV)→Option K4
 |m,[],[]=>some m
 |m,.inl p::l,.inl x::xs=>(p.Jv N m x).bind fun m=>SM.Jv N m l xs
 |m,.inr p::l,.inr x::xs=>(Rt.Jv N m p x).bind fun m=>SM.Jv N m l xs
 |_,_,_=>none
def XP.Jv(N:Nat)(m:K4):XP→XV→Option K4
 | .c p,.c x=>p.Jv N m x
 | .agg l,.agg xs=>Rt.Jv N m l xs
 | .row _,.agg _=>some m
 | .Ju l,.Ju xs=>SM.Jv N m l xs
 |_,_=>none
def Ej.Jv(N:Nat)(tm:List XV):K4→List (Nat×XP)→Option K4
 |m,[]=>some m
 |m,(i,p)::l=>
  match tm[i]? with
  |some x=>(p.Jv N m x).bind fun m=>Ej.Jv N tm m l
  |none=>none
def GZ.Jv(N:Nat)(bx:List Bx):Nat→K4→List BP→Option K4
 |_,m,[]=>some m
 |i,m,.mem l::ps=>
  match m[i]? with
  |some (some b)=>
   match bx[b]? with
   |some (.mem cs)=>(Rt.Jv N m l cs).bind fun m=>GZ.Jv N bx (i+1) m ps
   |_=>none
  |_=>none
 |i,m,.sl _ _::ps=>
  match m[i]? with
  |some (some _)=>GZ.Jv N bx (i+1) m ps
  |_=>none
 |i,m,.gone::ps=>GZ.Jv N bx (i+1) m ps
def B5(bx:List Bx):K4→List Bx
 |[]=>bx
 |some b::m=>B5 (bx.set b .dead) m
 |none::m=>B5 bx m
def S9.c_:(l:List Ty)→List ((r:Ty)×r.D)→Option (S9 l)
 |[],[]=>some ()
 |r::l,q::qs=>(L0 (β:=Ty.D) q.1 r q.2).bind fun a=>(S9.c_ l qs).map fun b=>(a,b)
 |_,_=>none
def S9.eC(bx:List Bx):(l:List Ty)→List Nat→Option (S9 l)
 |[],[]=>some ()
 |r::l,b::bs=>(match bx[b]? with
  |some (.mem cs)=>Fe bx r cs
  |_=>none).bind fun a=>(S9.eC bx l bs).map fun c=>(a,c)
 |_,_=>none
def AP.get(bx:List Bx):(p:AP)→AV→Option p.V
 | .gf f rs,x=>match x with
  | .gf g rows=>if f=g then S9.c_ rs rows else none
  | .fn g bs=>if f=g then S9.eC bx rs bs else none
  |_=>none
 | .v t,x=>if t.scalar then JC bx t x else none
 | .sl false r,x=>JC bx (.sl r) x
 | .sl true r,x=>match x with
  | .sl true q y=>L0 (β:=fun r=>List r.D) q r y
  | .nil=>some []
  |_=>none
 | .gF r,x=>match x with
  | .KB _ q y 0=>L0 (β:=Ty.D) q r y
  | .FY b 0=>match bx[b]? with
   |some (.mem cs)=>Fe bx r cs
   |_=>none
  | .Gd b p i sz 0=>match bx[b]? with
   |some (.sl _ q rows)=>(Ee q rows p).bind fun s=>if sz=s.1.n then L0 (β:=Ty.D) s.1 r (rowAt s.1 s.2 i)else none
   |_=>none
  |_=>none
 | .nil,_=>some ()
 | .ref _,_=>some ()
 | .ptr _ _,_=>some ()
 | .fn _ _,_=>some ()
 | .any,_=>some ()
 | .aL _ _,x=>match x with
  | .ref _ [s]=>some (s.i,s.j)
  |_=>none
def Rt.get(bx:List Bx):(l:List AP)→List AV→Option (Rt.V l)
 |[],[]=>some ()
 |p::l,x::xs=>(p.get bx x).bind fun a=>(Rt.get bx l xs).map fun b=>(a,b)
 |_,_=>none
def SM.get(bx:List Bx):(l:List (AP ⊕ List AP))→List (AV ⊕ List AV)→Option (SM.V l)
 |[],[]=>some ()
 | .inl p::l,.inl x::xs=>(p.get bx x).bind fun a=>(SM.get bx l xs).map fun b=>(a,b)
 | .inr p::l,.inr x::xs=>(Rt.get bx p x).bind fun a=>(SM.get bx l xs).map fun b=>(a,b)
 |_,_=>none
def XP.get(bx:List Bx):(p:XP)→XV→Option p.V
 | .c p,.c x=>p.get bx x
 | .agg l,.agg xs=>Rt.get bx l xs
 | .row r,.agg xs=>Fe bx r xs
 | .Ju l,.Ju xs=>SM.get bx l xs
 |_,_=>none
def Ej.get(bx:List Bx)(tm:List XV):(l:List (Nat×XP))→Option (Ej.V l)
 |[]=>some ()
 |(i,p)::l=>
  match tm[i]? with
  |some x=>(p.get bx x).bind fun a=>(Ej.get bx tm l).map fun b=>(a,b)
  |none=>none
def GZ.get(bx bk:List Bx):(m:K4)→(l:List BP)→Option (GZ.V l)
 |_,[]=>some ()
 |some b::m,.mem l::ps=>
  match bx[b]? with
  |some (.mem cs)=>(Rt.get bk l cs).bind fun a=>(GZ.get bx bk m ps).map fun c=>(a,c)
  |_=>none
 |some b::m,.sl d r::ps=>
  match bx[b]? with
  |some (.sl d' q rows)=>if 1≤d∧d≤d' then(L0 (β:=fun r=>List r.D) q r rows).bind fun a=>(GZ.get bx bk m ps).map fun c=>(a,c)else none
  |_=>none
 |_::m,.gone::ps=>(GZ.get bx bk m ps).map fun c=>((),c)
 |_,_=>none
def Bn.fit(s:Bn)(N:Nat)(m0:K4)(tm:List XV)(bx:List Bx):Option (s.V×K4):=
 (Ej.Jv N tm m0 s.Co).bind fun m=>(GZ.Jv N bx 0 m s.Ed).bind fun m=>
  let bk:=B5 bx m
  (Ej.get bk tm s.Co).bind fun a=>(GZ.get bx bk m s.Ed).map fun c=>((a,c),m)
def BP.opened:BP→Bx
 | .sl d r=> .sl (d+1) r []
 |_=> .dead
def Bn.opens(s:Bn)(bx:List Bx):List Bx:=bx++s.Ed.map BP.opened
def Bn.m0(s:Bn):K4:=List.replicate s.Ed.length none
structure O2 where
 ins:Bn
 outs:Bn
 g:ins.V→Option outs.V
def Sc(m:K4)(n:Nat)(i:Nat):Nat:=
 match m[i]? with
 |some (some b)=>b
 |_=>n+(i-m.length)
def Tg(G4:Nat→Nat):Nat→(l:List BP)→GZ.V l→List Bx→List Bx
 |_,[],_,bx=>bx
 |i,p::l,x,bx=>Tg G4 (i+1) l x.2 (if G4 i<bx.length then bx.set (G4 i) (p.mk G4 x.1)else bx++[p.mk G4 x.1])
def WU:(l:List (Nat×XP))→Ej.V l→(Nat→Nat)→XV
 |(_,p)::_,x,G4=>p.mk G4 x.1
 |[],_,_=> .c .undef
def DH:Nat:=2^36
section ops
variable{Y:Type}
abbrev K(Y:Type):=XV→St→Option Y
def St.new(σ:St)(b:Bx):St:={ σ with bx:=σ.bx++[b] }
def rK(x:Bool)(a b:XV)(σ:St)(k:K Y):Option Y:=cond x (k a σ) (k b σ)
def XG(op:BinOp)(κ:IntKind)(a b:Int)(k:AV→Option Y):Option Y:=
 match op with
 | .add=>k (.v (.int κ) (κ.wrap (a+b)))
 | .sub=>k (.v (.int κ) (κ.wrap (a-b)))
 | .mul=>k (.v (.int κ) (κ.wrap (a*b)))
 | .quo=>if b=0 then none else k (.v (.int κ) (κ.wrap (a.tdiv b)))
 | .rem=>if b=0 then none else k (.v (.int κ) (a.tmod b))
 | .and=>k (.v (.int κ) (κ.wrap (BitVec.ofInt κ.bits a &&& BitVec.ofInt κ.bits b).toNat))
 | .or=>k (.v (.int κ) (κ.wrap (BitVec.ofInt κ.bits a ||| BitVec.ofInt κ.bits b).toNat))
 | .xor=>k (.v (.int κ) (κ.wrap (BitVec.ofInt κ.bits a ^^^ BitVec.ofInt κ.bits b).toNat))
 | .andNot=>k (.v (.int κ) (κ.wrap (BitVec.ofInt κ.bits a &&& ~~~BitVec.ofInt κ.bits b).toNat))
 | .eql=>k (.v .bool (a==b))
 | .neq=>k (.v .bool (a !=b))
 | .lss=>k (.v .bool (decide (a<b)))
 | .leq=>k (.v .bool (decide (a≤b)))
 | .gtr=>k (.v .bool (decide (a>b)))
 | .geq=>k (.v .bool (decide (a≥b)))
 |_=>none
def SJ(op:BinOp)(κ:IntKind)(a b:Int)(k:AV→Option Y):Option Y:=
 if b<0 then none else
 match op with
 | .shl=>k (.v (.int κ) (κ.wrap (a*2^min b.toNat κ.bits)))
 | .shr=>k (.v (.int κ) (a.fdiv (2^min b.toNat κ.bits)))
 |_=>none
def Yk(op:BinOp)(a b:AA_)(k:AV→Option Y):Option Y:=
 match op with
 | .add=>if a.length+b.length≤DH then k (.v .str (a++b))else none
 | .eql=>k (.v .bool (a==b))
 | .neq=>k (.v .bool (!(a==b)))
 | .lss=>k (.v .bool (Op.bytesLess a b))
 | .leq=>k (.v .bool (Op.bytesLess a b||a==b))
 | .gtr=>k (.v .bool (!(Op.bytesLess a b||a==b)))
 | .geq=>k (.v .bool (!Op.bytesLess a b))
 |_=>none
def eN:TD→AV→AV→Option Bool
 | .int _,.v (.int j) a,.v (.int k) b=>if j=k then some (a==b)else none
 | .bool,.v .bool a,.v .bool b=>some (a==b)
 | .str,.v .str a,.v .str b=>some (a==b)
 |_,_,_=>none
def Hy(T:G8):Nat→List ABR→List AV→List AV→Option Bool
 |_,[],[],[]=>some true
 |i,(o,t)::fs,x::l,z::m=>
  if o=i then
   match T.get t with
   |some ti=>match eN ti.desc x z with
    |some p=>(Hy T (i+1) fs l m).map fun r=>p&&r
    |none=>none
   |none=>none
  else none
 |_,_,_,_=>none
def G8.fields(T:G8)(t:Nat):Option (List ABR):=
 match(T.get t).map TI.desc with
 |some (.st fs)=>some fs
 |_=>none
def jj(T:G8)(t:Nat)(op:BinOp)(a b:XV)(k:AV→Option Y):Option Y:=
 match a,b with
 | .c (.v (.int j) x),.c (.v (.int j') y)=>
  match op with
  | .shl| .shr=>SJ op j x y k
  |_=>if j=j' then XG op j x y k else none
 | .c (.v .str x),.c (.v .str y)=>Yk op x y k
 | .c (.v .bool x),.c (.v .bool y)=>
  match T.get t with
  |some ti=>match ti.desc with
   | .bool=>match op with
    | .eql=>k (.v .bool (x==y))
    | .neq=>k (.v .bool (!(x==y)))
    |_=>none
   |_=>none
  |none=>none
 | .agg l,.agg m=>
  match op,(T.fields t).bind fun fs=>Hy T 0 fs l m with
  | .eql,some r=>k (.v .bool r)
  | .neq,some r=>k (.v .bool (!r))
  |_,_=>none
 |_,_=>none
def unX(op:UnOp)(a:XV)(k:AV→Option Y):Option Y:=
 match op,a with
 | .not,.c (.v .bool x)=>k (.v .bool (!x))
 | .neg,.c (.v (.int j) x)=>k (.v (.int j) (j.wrap (0-x)))
 |_,_=>none
def nA(d b:Nat)(p:List bE)(s:bE):((t:Ty)×t.D)→AV
 |⟨.sl r,x⟩=>if d≤1 then .sl true r x else .ref b (p++[s])
 |⟨t,x⟩=>if t.scalar then .v t x else .undef
def mS(s:Bool):((t:Ty)×t.D)→AV
 |⟨.sl r,x⟩=> .sl s r x
 |⟨t,x⟩=>if t.scalar then .v t x else .undef
def Vw(f:Nat→Option AV):Nat→Nat→Option (List AV)
 |_,0=>some []
 |j,n+1=>(f j).bind fun x=>(Vw f (j+1) n).map fun l=>x::l
def Gm(bx:List Bx):AV→Nat→Option AV
 | .FY b j,i=>
  match bx[b]? with
  |some (.mem cs)=>cs[j+i]?
  |_=>none
 | .Gd b p r sz j,i=>
  match bx[b]? with
  |some (.sl d q rows)=>if p.length<d then(Ee q rows p).bind fun s=>if sz=s.1.n then(Ai s.1 (j+i) (rowAt s.1 s.2 r)).map (nA (d-p.length) b p ⟨r,sz,j+i⟩)else none else none
  |_=>none
 | .KB s r x j,i=>(Ai r (j+i) x).map (mS s)
 |_,_=>none
def aq(T:G8)(t:Nat)(σ:St)(a:XV):Option XV:=
 match a,T.get t with
 | .c a,some ti=>if ti.size=0 then none else if ti.desc.agg then(Vw (Gm σ.bx a) 0 ti.size).map .agg else(Gm σ.bx a 0).map .c
 |_,_=>none
def V9(d:Nat)(t:Ty)(x:AV)(bx:List Bx):Option (t.D×List Bx×Nat):=
 match x with
 | .v u y=>(L0 (β:=Ty.D) u t y).map fun y=>(y,bx,d)
 | .nil=>match t with
  | .sl _=>some ([],bx,d)
  |_=>none
 | .sl true r y=>match t with
  | .sl q=>(L0 (β:=fun r=>List r.D) r q y).map fun y=>(y,bx,1)
  |_=>none
 | .ref b []=>match t with
  | .sl q=>
   match bx[b]? with
   |some (.sl d' r y)=>(L0 (β:=fun r=>List r.D) r q y).map fun y=>(y,bx.set b .dead,min d (d'+1))
   |_=>none
  |_=>none
 | .win b [] off n=>match t with
  | .sl q=>
   match bx[b]? with
   |some (.sl d' r y)=>(L0 (β:=fun r=>List r.D) r q ((y.drop off).take n)).map fun y=>(y,bx.set b .dead,min d (d'+1))
   |_=>none
  |_=>none
 |_=>none
def cellsIn(d:Nat):(r:Ty)→List AV→List Bx→Option (r.D×List Bx×Nat)
 | .unit,[],bx=>some ((),bx,d)
 | .cons c r,x::l,bx=>(V9 d c x bx).bind fun a=>(cellsIn a.2.2 r l a.2.1).map fun b=>((a.1,b.1),b.2)
 |_,_,_=>none
def rU(d:Nat)(r:Ty)(x:XV)(bx:List Bx):Option (r.D×List Bx×Nat):=
 match x with
 | .agg l=>cellsIn d r l bx
 | .c x=>V9 d r x bx
 |_=>none
def Gz(b:Nat):AV→AV
 | .ref b' (s::p)=>if b' =b then .undef else .ref b' (s::p)
 | .win b' (s::p) i n=>if b' =b then .undef else .win b' (s::p) i n
 | .Gd b' (s::p) i sz j=>if b' =b then .undef else .Gd b' (s::p) i sz j
 |x=>x
def ib(b:Nat):XV→XV
 | .c x=> .c (Gz b x)
 | .agg l=> .agg (l.map (Gz b))
 | .Ju l=> .Ju (l.map fun| .inl x=> .inl (Gz b x)| .inr q=> .inr (q.map (Gz b)))
def nE(b:Nat):Bx→Bx
 | .mem cs=> .mem (cs.map (Gz b))
 |x=>x
def St.nB(b:Nat)(σ:St):St:={ tm:=σ.tm.map (ib b),bx:=σ.bx.map (nE b) }
def Rg(cs:List AV):Nat→List AV→Option (List AV)
 |_,[]=>some cs
 |j,x::l=>if j<cs.length then Rg (cs.set j x) (j+1) l else none
def cm(d:Nat)(r:Ty)(old:r.D)(j:Nat)(x:XV)(bx:List Bx):Option (r.D×List Bx×Nat):=
 match x with
 | .agg l=>if j=0 then cellsIn d r l bx else none
 | .c x=>
  match Ai r j old with
  |some ⟨t,_⟩=>(V9 d t x bx).bind fun a=>(Cb r j old t a.1).map fun row=>(row,a.2)
  |none=>none
 |_=>none
def XV.plain:XV→Bool
 | .c (.v _ _)=>true
 |_=>false
def X5(σ:St)(a:XV)(x:XV):Option St:=
 match a with
 | .c (.FY b j)=>
  match σ.bx[b]? with
  |some (.mem cs)=>(Rg cs j x.cells).map fun cs=>{ σ with bx:=σ.bx.set b (.mem cs) }
  |_=>none
 | .c (.Gd b p i sz j)=>
  match σ.bx[b]? with
  |some (.sl d r rows)=>if p.length<d then
   (Ee r rows p).bind fun s=>if sz=s.1.n then(cm (d-p.length) s.1 (rowAt s.1 s.2 i) j x (σ.bx.set b .dead)).bind fun w=>
    (ew r rows p s.1 (s.2.set i w.1)).map fun rows=>
     let σ':St:={ σ with bx:=w.2.1.set b (.sl (w.2.2+p.length) r rows) }
     if x.plain then σ' else σ'.nB b
    else none
   else none
  |_=>none
 |_=>none
def Tn(σ:St)(a x:XV):Option (St×XV):=
 match a,x with
 | .c (.Gd b _ _ _ _),.c (.win b' (s::p') off n)=>
  if b' =b then
   match σ.bx[b]? with
   |some (.sl d r rows)=>(Ee r rows (s::p')).map fun q=>({ σ with bx:=σ.bx.set b (.sl (min d (p'.length+1)) r rows) },.c (.sl true q.1 ((q.2.drop off).take n)))
   |_=>none
  else none
 |_,_=>some (σ,x)
def NV(σ:St)(a x:XV):Option St:=(Tn σ a x).bind fun q=>X5 q.1 a q.2
def cU(bx:List Bx)(x:AV):Option ((r:Ty)×(List r.D×List Bx×Nat)):=
 match x with
 | .v .str s=>some ⟨.int .u8,s.map (fun c=>(c.toNat:Int)),bx,9⟩
 | .sl s r rows=>if r.flat then some ⟨r,rows,bx,9⟩else if s then some ⟨r,rows,bx,1⟩else none
 | .ref b []=>
  match bx[b]? with
  |some (.sl d r rows)=>if r.flat then some ⟨r,rows,bx,9⟩else some ⟨r,rows,bx.set b .dead,d⟩
  |_=>none
 | .ref b p=>
  match bx[b]? with
  |some (.sl _ r rows)=>(Ee r rows p).bind fun q=>if q.1.flat then some ⟨q.1,q.2,bx,9⟩else none
  |_=>none
 | .win b p off n=>
  match bx[b]? with
  |some (.sl _ r rows)=>(Ee r rows p).bind fun q=>if q.1.flat then some ⟨q.1,(q.2.drop off).take n,bx,9⟩else none
  |_=>none
 |_=>none
def cN(bx:List Bx)(x:AV):Option ((r:Ty)×(List r.D×List Bx×Nat)):=
 match x with
 | .ref b []=>
  match bx[b]? with
  |some (.sl d r rows)=>some ⟨r,rows,bx.set b .dead,d⟩
  |_=>none
 | .win b [] off n=>
  match bx[b]? with
  |some (.sl d r rows)=>some ⟨r,(rows.drop off).take n,bx.set b .dead,d⟩
  |_=>none
 |_=>none
def G8.elem(T:G8)(t:Nat):Option TI:=
 match(T.get t).map TI.desc with
 |some (.sl e)=>T.get e
 |_=>none
def G8.NM(T:G8)(t:Nat)(r:Ty):Bool:=
 match T.elem t with
 |some ti=>decide (ti.size=r.n)&&decide (ti.bytes≤512)&&decide (ti.row=some r)
 |none=>false
def G8.isStr(T:G8)(t:Nat):Bool:=
 match(T.get t).map TI.desc with
 |some .str=>true
 |_=>false
def G8.w6(T:G8)(t:Nat):Bool:=
 match(T.get t).map TI.desc with
 |some (.sl _)=>true
 |_=>false
def Wl(T:G8)(ts:Array TypeId)(σ:St)(a x:XV)(k:K Y):Option Y:=
 match ts[0]?,ts[1]? with
 |some t,some u=>
  if T.w6 u||T.isStr u then
   match a,x with
   | .c .nil,.c y=>
    (cU σ.bx y).bind fun s=>if T.NM t s.1 then
     if s.2.1.length≤DH then k (.c (.ref s.2.2.1.length [])) { σ with bx:=s.2.2.1++[.sl s.2.2.2 s.1 s.2.1] }else none
     else none
   | .c a,.c y=>
    (cN σ.bx a).bind fun d=>if T.NM t d.1 then(cU d.2.2.1 y).bind fun s=>
     (L0 (β:=fun r=>List r.D) s.1 d.1 s.2.1).bind fun rows=>
      if d.2.1.length+rows.length≤DH then
       k (.c (.ref s.2.2.1.length [])) { σ with bx:=s.2.2.1++[.sl (min d.2.2.2 s.2.2.2) d.1 (d.2.1++rows)] }
      else none
     else none
   |_,_=>none
  else none
 |_,_=>none
def Zm(T:G8)(ts:Array TypeId)(σ:St)(x:XV)(k:K Y):Option Y:=
 match ts[0]?,x with
 |some t,.c (.win b [] off n)=>
  match σ.bx[b]? with
  |some (.sl d r rows)=>if T.NM t r&&(r.flat&&decide (0<r.n))then k (.c .undef) { σ with bx:=σ.bx.set b (.sl d r ((rows.take off++List.replicate n r.z)++rows.drop (off+n))) }else none
  |_=>none
 |_,_=>none
def Vh:XV→Option Int
 | .c (.v (.int _) n)=>some n
 |_=>none
def KR(len:Nat)(lo hi:Option XV)(k:Nat→Nat→Option Y):Option Y:=
 let h:Option Int:=match hi with
  |none=>some (len:Int)
  |some x=>Vh x
 let l:Option Int:=match lo with
  |none=>some 0
  |some x=>Vh x
 match l,h with
 |some l,some h=>if 0≤l∧l≤h∧h≤(len:Int)then k l.toNat h.toNat else none
 |_,_=>none
def aD(T:G8)(t:Nat)(σ:St)(x:XV)(lo hi:Option XV)(k:K Y):Option Y:=
 match x with
 | .c (.v .str s)=>if T.isStr t then KR s.length lo hi fun l h=>k (.c (.v .str ((s.drop l).take (h-l)))) σ else none
 | .c (.sl s r rows)=>if T.NM t r then KR rows.length lo hi fun l h=>k (.c (.sl s r ((rows.drop l).take (h-l)))) σ else none
 | .c (.ref b p)=>
  match Jc σ.bx (.ref b p)with
  |some q=>if T.NM t q.1 then KR q.2.length lo hi fun l h=>k (.c (.win b p l (h-l))) σ else none
  |none=>none
 |_=>none
def Z8(σ:St)(T:G8)(t:Nat)(x i:XV)(k:K Y):Option Y:=
 match x,Vh i with
 | .c (.sl s r rows),some i=>if T.NM t r then(if 0≤i∧i<(rows.length:Int)then k (.c (.KB s r (rowAt r rows i.toNat) 0)) σ else none)else none
 | .c (.ref b p),some i=>
  match Jc σ.bx (.ref b p)with
  |some q=>if T.NM t q.1 then(if 0≤i∧i<(q.2.length:Int)then k (.c (.Gd b p i.toNat q.1.n 0)) σ else none)else none
  |none=>none
 | .c (.win b p off n),some i=>
  match Jc σ.bx (.ref b p)with
  |some q=>if T.NM t q.1 then(if 0≤i∧i<(n:Int)then k (.c (.Gd b p (off+i.toNat) q.1.n 0)) σ else none)else none
  |none=>none
 |_,_=>none
def iv(T:G8)(t:Nat)(x:XV)(f:Nat):Option XV:=
 match T.get t with
 |some ⟨_,_,.st fs,_⟩=>
  match fs[f]? with
  |some (o,_)=>match x with
   | .c (.FY b j)=>some (.c (.FY b (j+o)))
   | .c (.Gd b p i sz j)=>some (.c (.Gd b p i sz (j+o)))
   | .c (.KB s r y j)=>some (.c (.KB s r y (j+o)))
   |_=>none
  |none=>none
 |_=>none
def sW(T:G8)(t:Nat)(x:XV)(f:Nat):Option XV:=
 match T.get t,x with
 |some ⟨_,_,.st fs,_⟩,.agg l=>
  match fs[f]? with
  |some (o,u)=>
   match T.get u with
   |some ti=>if ti.desc.agg then some (.agg ((l.drop o).take ti.size))else(l[o]?).map .c
   |none=>none
  |none=>none
 |_,_=>none
def gi(T:G8)(src dst:Nat)(σ:St)(x:XV)(k:K Y):Option Y:=
 match(T.get src).map TI.desc,(T.get dst).map TI.desc,x with
 |some (.int _),some (.int κ),.c (.v (.int _) n)=>k (.c (.v (.int κ) (κ.wrap n))) σ
 |some .str,some .str,.c (.v .str s)=>k (.c (.v .str s)) σ
 |some .str,some (.sl e),.c (.v .str s)=>
  match(T.get e).map TI.desc with
  |some (.int .u8)=>if s.length≤DH then k (.c (.ref σ.bx.length [])) (σ.new (.sl 9 (.int .u8) (s.map fun c=>(c.toNat:Int))))else none
  |_=>none
 |some (.sl e),some .str,.c x=>
  match(T.get e).map TI.desc,JC σ.bx (.sl (.int .u8)) x with
  |some (.int .u8),some l=>k (.c (.v .str (l.map fun n:Int=>UInt8.ofNat n.toNat))) σ
  |_,_=>none
 |_,_,_=>none
def iE(T:G8)(t:Nat)(σ:St)(l c:XV)(k:K Y):Option Y:=
 match(T.get t).map TI.desc,Vh l,Vh c with
 |some (.sl e),some n,some m=>
  match G8.Yt T e with
  |some r=>if T.NM t r then(if 0≤n∧n≤m∧m≤(DH:Int)then k (.c (.ref σ.bx.length [])) (σ.new (.sl 9 r (List.replicate n.toNat r.z)))else none)else none
  |none=>none
 |_,_,_=>none
def YC(T:G8)(fs:List ABR):List AV→List (Nat×XV)→Option (List AV)
 |cs,[]=>some cs
 |cs,(i,x)::l=>
  match fs[i]? with
  |some (o,u)=>
   match T.get u with
   |some ti=>if x.cells.length=ti.size∧ti.size≠0∧x.cells.all AV.known=true then(Rg cs o x.cells).bind fun cs=>YC T fs cs l else none
   |none=>none
  |none=>none
def Sk(r:Ty):Nat→Nat→List (Nat×XV)→List Bx→Nat→Option (List r.D×List Bx×Nat)
 |_,0,[],bx,d=>some ([],bx,d)
 |i,n+1,(j,x)::l,bx,d=>
  if i=j then(rU d r x bx).bind fun a=>(Sk r (i+1) n l a.2.1 a.2.2).map fun b=>(a.1::b.1,b.2)else none
 |i,n+1,[],bx,d=>(Sk r (i+1) n [] bx d).map fun b=>(r.z::b.1,b.2)
 |_,0,_::_,_,_=>none
def ME(T:G8)(t n:Nat)(parts:List (Nat×XV))(σ:St)(k:K Y):Option Y:=
 match(T.get t).map TI.desc with
 |some (.sl e)=>
  match G8.Yt T e with
  |some r=>if T.NM t r&&decide (n≤1024)&&decide (r.n≤1024)then(Sk r 0 n parts σ.bx 9).bind fun a=>k (.c (.ref a.2.1.length [])) { σ with bx:=a.2.1++[.sl a.2.2 r a.1] }else none
  |none=>none
 |_=>none
def Qs(T:G8)(t:Nat)(σ:St)(x i:XV)(k:K Y):Option Y:=
 match x,Vh i with
 | .c (.v .str s),some i=>if T.isStr t then if 0≤i∧i<(s.length:Int)then k (.c (.v (.int .u8) ((s.getD i.toNat 0).toNat:Int))) σ else none else none
 |_,_=>none
def fE(x:XV)(i:Nat):Option XV:=
 match x with
 | .Ju l=>match l[i]? with
  |some (.inl a)=>some (.c a)
  |some (.inr q)=>some (.agg q)
  |none=>none
 |_=>none
def DP(m:K4):AV→AV
 | .ref b (s::p)=>if m.contains (some b)then .undef else .ref b (s::p)
 | .win b (s::p) i n=>if m.contains (some b)then .undef else .win b (s::p) i n
 | .Gd b (s::p) i sz j=>if m.contains (some b)then .undef else .Gd b (s::p) i sz j
 |x=>x
def PS(m:K4):XV→XV
 | .c x=> .c (DP m x)
 | .agg l=> .agg (l.map (DP m))
 | .Ju l=> .Ju (l.map fun| .inl x=> .inl (DP m x)| .inr q=> .inr (q.map (DP m)))
def qq(m:K4):Bx→Bx
 | .mem cs=> .mem (cs.map (DP m))
 |x=>x
def St.RL(m:K4)(σ:St):St:=
 match m with
 |[]=>σ
 |_::_=>{ tm:=σ.tm.map (PS m),bx:=σ.bx.map (qq m) }
def bD(c:O2)(args:List XV)(σ:St)(k:K Y):Option Y:=
 if args.length=c.ins.Co.length then
  match c.ins.fit σ.bx.length c.ins.m0 args (c.ins.opens σ.bx)with
  |some (v,m)=>(c.g v).bind fun u=>
   let G4:=Sc m (c.ins.opens σ.bx).length
   let σ1:=({ σ with bx:=c.ins.opens σ.bx }:St).RL m
   k (WU c.outs.Co u.1 G4) { σ1 with bx:=Tg G4 0 c.outs.Ed u.2 (B5 σ1.bx m) }
  |none=>none
 else none
def Uk(σ:St)(x:XV)(k:K Y):Option Y:=
 match x with
 | .c (.win b [] off n)=>
  (cN σ.bx (.win b [] off n)).bind fun s=>k (.c (.ref s.2.2.1.length [])) { σ with bx:=s.2.2.1++[.sl s.2.2.2 s.1 s.2.1] }
 |x=>k x σ
def kW(l:List XV):Option AAz:=
 match l with
 |[]=>some []
 | .c (.FY b 0)::l=>(kW l).map fun r=>b::r
 |_=>none
def ia(big:Bool)(a b:XV)(k:AV→Option Y):Option Y:=
 match a,b with
 | .c (.v (.int j) x),.c (.v (.int j') y)=>
  if j=j' then(if big then k (.v (.int j) (if y>x then y else x))else k (.v (.int j) (if y<x then y else x)))else none
 |_,_=>none
def Q9(T:G8)(Γ:Nat→Option O2)(o:Oper)(σ:St)(k:K Y):Option Y:=
 match o.op with
 | .move x=>k (σ.ev x) σ
 | .assign x=>Uk σ (σ.ev x) k
 | .pick c a b=>match σ.ev c with
  | .c (.v .bool x)=>rK x (σ.ev a) (σ.ev b) σ k
  |_=>none
 | .alloc t=>match G8.Yt T t with
  |some r=>k (.c (.FY σ.bx.length 0)) (σ.new (.mem (U6 r)))
  |none=>none
 | .box t x=>match T.get t with
  |some ti=>if(σ.ev x).cells.length=ti.size∧ti.size≠0∧(σ.ev x).cells.all AV.known=true then k (.c (.FY σ.bx.length 0)) (σ.new (.mem (σ.ev x).cells))else none
  |none=>none
 | .build t parts=>match T.get t,G8.Yt T t with
  |some ⟨_,_,.st fs,_⟩,some r=>match YC T fs (U6 r) (parts.toList.map fun q=>(q.1,σ.ev q.2))with
   |some cs=>k (.agg cs) σ
   |none=>none
  |_,_=>none
 | .buildSlice t n parts=>ME T t n (parts.toList.map fun q=>(q.1,σ.ev q.2)) σ k
 | .load t a=>match aq T t σ (σ.ev a)with
  |some x=>k x σ
  |none=>none
 | .store t a x=>match T.get t with
  |some ti=>if(σ.ev x).cells.length=ti.size∧ti.size≠0∧(σ.ev x).cells.all AV.known=true then(match NV σ (σ.ev a) (σ.ev x)with
   |some σ=>k (.c .undef) σ
   |none=>none)else none
  |none=>none
 | .nilCheck x=>match σ.ev x with
  | .c (.FY b j)=>k (.c (.FY b j)) σ
  | .c (.Gd b p i sz j)=>k (.c (.Gd b p i sz j)) σ
  | .c (.KB s r y j)=>k (.c (.KB s r y j)) σ
  | .c (.fn f G6)=>k (.c (.fn f G6)) σ
  |_=>none
 | .binOp op t x y _=>jj T t op (σ.ev x) (σ.ev y) fun a=>k (.c a) σ
 | .unOp op _ x=>unX op (σ.ev x) fun a=>k (.c a) σ
 | .convert s d x=>gi T s d σ (σ.ev x) k
 | .makeFunc (.func f) first G6=>if first.size=0 then(match kW (G6.toList.map σ.ev)with
  |some bs=>k (.c (.fn f bs)) σ
  |none=>none)else none
 | .makeSlice t l c=>iE T t σ (σ.ev l) (σ.ev c) k
 | .slice t x lo hi none=>aD T t σ (σ.ev x) (lo.map σ.ev) (hi.map σ.ev) k
 | .fieldAddr t x f=>match iv T t (σ.ev x) f with
  |some y=>k y σ
  |none=>none
 | .field t x f=>match sW T t (σ.ev x) f with
  |some y=>k y σ
  |none=>none
 | .indexAddr t x i=>Z8 σ T t (σ.ev x) (σ.ev i) k
 | .index t x i=>Qs T t σ (σ.ev x) (σ.ev i) k
 | .extract x i=>match fE (σ.ev x) i with
  |some y=>k y σ
  |none=>none
 | .call { callee:= .value f,args,.. }=>match σ.ev f with
  | .c (.fn f G6)=>match Γ f with
   |some c=>bD c (args.toList.map σ.ev++G6.map fun b=> .c (.FY b 0)) σ k
   |none=>none
  | .c (.gf f rows)=>match Γ f with
   |some c=>bD c (args.toList.map σ.ev++rows.map fun q=> .c (.KB false q.1 q.2 0)) σ k
   |none=>none
  |_=>none
 | .call { callee:= .builtin .len,args,argTypes }=>match args.toList.map σ.ev,argTypes[0]? with
  |[.c (.v .str s)],some t=>if T.isStr t then k (.c (.v (.int .i64) (s.length:Int))) σ else none
  |[.c x],some t=>if T.w6 t then(match lenOf σ.bx x with
   |some n=>k (.c (.v (.int .i64) (n:Int))) σ
   |none=>none)else none
  |_,_=>none
 | .call { callee:= .builtin .append,args,argTypes }=>match args.toList.map σ.ev with
  |[a,x]=>Wl T argTypes σ a x k
  |_=>none
 | .call { callee:= .builtin .clear,args,argTypes }=>match args.toList.map σ.ev with
  |[x]=>Zm T argTypes σ x k
  |_=>none
 | .call { callee:= .builtin .max,args,.. }=>match args.toList.map σ.ev with
  |[a,x]=>ia true a x fun a=>k (.c a) σ
  |_=>none
 | .call { callee:= .builtin .min,args,.. }=>match args.toList.map σ.ev with
  |[a,x]=>ia false a x fun a=>k (.c a) σ
  |_=>none
 |_=>none
end ops
end Go.Fw
end
section
namespace Go.Fw
section
variable{Y:Type}
structure Xj where
 T:G8
 Γ:Nat→Option O2
 hint:Nat→List Nat
def Xu(hint:AAz):XV→Bool
 | .c (.FY b _)=>hint.contains b
 | .c (.Gd b _ _ _ _)=>hint.contains b
 | .c (.KB _ _ _ _)=>true
 |_=>false
def ZL(hint:AAz)(σ:St):Op→Bool
 | .assign x=>match σ.ev x with
  | .c (.win _ [] _ _)=>false
  |_=>true
 | .move _| .pick .. | .nilCheck _| .binOp .. | .unOp .. | .fieldAddr .. | .field .. | .indexAddr .. | .index .. | .extract .. | .build .. =>true
 | .slice _ _ _ _ none=>true
 | .load _ a=>Xu hint (σ.ev a)
 | .call { callee:= .builtin .len,.. }=>true
 | .call { callee:= .builtin .max,.. }=>true
 | .call { callee:= .builtin .min,.. }=>true
 |_=>false
def F7(Γ:Nat→Option O2)(σ:St):Op→List Nat
 | .store _ a _=>match σ.ev a with
  | .c (.FY b _)=>[b]
  | .c (.Gd b _ _ _ _)=>[b]
  |_=>[]
 | .call { callee:= .value f,args,.. }=>match σ.ev f with
  | .c (.fn f G6)=>match Γ f with
   |some c=>match c.ins.fit σ.bx.length c.ins.m0 (args.toList.map σ.ev++G6.map fun b=> .c (.FY b 0)) (c.ins.opens σ.bx)with
    |some (_,m)=>m.filterMap id
    |none=>[]
   |none=>[]
  | .c (.gf f rows)=>match Γ f with
   |some c=>match c.ins.fit σ.bx.length c.ins.m0 (args.toList.map σ.ev++rows.map fun q=> .c (.KB false q.1 q.2 0)) (c.ins.opens σ.bx)with
    |some (_,m)=>m.filterMap id
    |none=>[]
   |none=>[]
  |_=>[]
 | .call { callee:= .builtin .clear,args,.. }=>match args.toList.map σ.ev with
  |[.c (.win b _ _ _)]=>[b]
  |_=>[]
 |_=>[]
def tt:XV:= .c (.v .bool true)
def ff:XV:= .c (.v .bool false)
def nC(C:Xj)(ops:Array Oper)(o:Oper)(kn:St→Option Y)(σ:St):Option Y:=
 match o.guard with
 |none=>Q9 C.T C.Γ o σ fun x σ' =>kn (σ'.put o.dst x)
 |some (j,want)=>
  match(ops[j]?).bind (·.dst)with
  |some t=>
   match σ.tm[t]? with
   |some (.c (.v .bool b))=>
    let yes (σ:St):Option Y:=Q9 C.T C.Γ o σ fun x σ' =>kn (σ'.put o.dst x)
    let no (σ:St):Option Y:=kn (σ.put o.dst (.Ju []))
    cond b ((if want then yes else no) (σ.put (some t) tt)) ((if want then no else yes) (σ.put (some t) ff))
   |some (.Ju [])=>kn (σ.put o.dst (.Ju []))
   |_=>none
  |none=>none
def jG(C:Xj)(all:Array Oper):List Oper→(St→Option Y)→St→Option Y
 |[],kn,σ=>kn σ
 |o::rest,kn,σ=>nC C all o (fun σ' =>jG C all rest kn σ') σ
def nO(C:Xj)(ops:Array Oper)(i:Nat)(kn:St→Option Y)(σ:St):Option Y:=
 match ops[i]? with
 |none=>none
 |some o=>nC C ops o kn σ
def Z3(bx:List Bx)(b:Nat):Bool:=
 match bx[b]? with
 |some .dead=>true
 |some _=>false
 |none=>true
def idle(ops:Array Oper)(σ:St)(o:Oper):Bool:=
 match o.guard with
 |none=>false
 |some (j,want)=>
  match(ops[j]?).bind (·.dst)with
  |some t=>
   match σ.tm[t]? with
   |some (.c (.v .bool b))=>b !=want
   |some (.Ju [])=>true
   |_=>false
  |none=>false
def cx(hint:AAz)(ops:Array Oper)(Cf:Array Bool)(σ:St)(i:Nat):Bool:=
 match ops[i]? with
 |some o=>(ZL hint σ o.op||idle ops σ o)&&Region.free .any ops Cf i
 |none=>false
def iO(f:Nat→List Bool→Option Y):List Nat→List Bool→Option Y
 |[],_=>none
 |[i],ω=>f i ω
 |i::_::_,[]=>f i []
 |i::_::_,true::ω=>f i ω
 |_::j::r,false::ω=>iO f (j::r) ω
def Od(C:Xj)(hint:AAz)(ops:Array Oper)(kn:List Bool→St→Option Y):Nat→Array Bool→List Bool→St→Option Y
 |fuel,Cf,ω,σ=>
  if hint.all (fun b=> !Z3 σ.bx b)then
   match Region.ready .any ops Cf with
   |[]=>kn ω σ
   |rs=>
    match fuel with
    |0=>none
    |fuel+1=>
     match rs.find? (cx hint ops Cf σ)with
     |some i=>nO C ops i (fun σ' =>Od C hint ops kn fuel (Cf.setIfInBounds i true) ω σ') σ
     |none=>iO (fun i ω=>
      match ops[i]? with
      |some o=>if(F7 C.Γ σ o.op).all (fun b=> !hint.contains b)then nO C ops i (fun σ' =>Od C hint ops kn fuel (Cf.setIfInBounds i true) ω σ') σ else none
      |none=>none) rs ω
  else none
def first:Code→Nat
 | .region id _ _=>id
 | .seq a _=>first a
 | .cond _ a _=>first a
 | .block _ a=>first a
 | .loop a=>first a
 | .scope a=>first a
 |_=>0
abbrev KN(Y:Type):=List Bool→St→Option Y
def run(C:Xj)(J:Nat→St→Option Y):Code→KN Y→(Nat→KN Y)→KN Y→KN Y
 | .skip,kn,_,_,ω,σ=>kn ω σ
 | .region id ops draw,kn,_,_,ω,σ=>
  if draw then(if Region.noSelect ops then Od C (C.hint id) ops kn ops.size (Array.replicate ops.size false) ω σ else none)else jG C ops ops.toList (kn ω) σ
 | .seq a b,kn,kx,kr,ω,σ=>run C J a (fun ω σ=>run C J b kn kx kr ω σ) kx kr ω σ
 | .cond (.tmp t) a b,kn,kx,kr,ω,σ=>
  match σ.tm[t]? with
  |some (.c (.v .bool x))=>cond x (run C J a kn kx kr ω (σ.put (some t) tt)) (run C J b kn kx kr ω (σ.put (some t) ff))
  |_=>none
 | .block id body,kn,kx,kr,ω,σ=>run C J body kn (fun j ω σ=>if j=id then kn ω σ else kx j ω σ) kr ω σ
 | .loop body,_,_,_,_,σ=>J (first body) σ
 | .exit id,_,kx,_,ω,σ=>kx id ω σ
 | .ret,_,_,kr,ω,σ=>kr ω σ
 |_,_,_,_,_,_=>none
def find(C:Xj)(J:Nat→St→Option Y)(ℓ :Nat):Code→KN Y→(Nat→KN Y)→KN Y→Option (KN Y)
 | .seq a b,kn,kx,kr=>
  match find C J ℓ a (fun ω σ=>run C J b kn kx kr ω σ) kx kr with
  |some f=>some f
  |none=>find C J ℓ b kn kx kr
 | .cond _ a b,kn,kx,kr=>
  match find C J ℓ a kn kx kr with
  |some f=>some f
  |none=>find C J ℓ b kn kx kr
 | .block id body,kn,kx,kr=>find C J ℓ body kn (fun j ω σ=>if j=id then kn ω σ else kx j ω σ) kr
 | .loop body,_,kx,kr=>
  if first body= ℓ then some (fun ω σ=>run C J body (fun _ σ=>J ℓ σ) kx kr ω σ)else find C J ℓ body (fun _ σ=>J (first body) σ) kx kr
 |_,_,_,_=>none
def qX(T:G8)(σ:St):ResultVar→Option XV
 | .tmp t=>σ.tm[t]?
 | .cell a t=>match σ.tm[a]? with
  |some x=>aq T t σ x
  |none=>none
def j5:List XV→Option (List (AV ⊕ List AV))
 |[]=>some []
 | .c x::l=>(j5 l).map fun r=> .inl x::r
 | .agg q::l=>(j5 l).map fun r=> .inr q::r
 |_=>none
def eO(T:G8)(σ:St)(rs:List ResultVar):Option XV:=
 match rs.mapM (qX T σ)with
 |some [x]=>some x
 |some l=>(j5 l).map .Ju
 |none=>none
def N7:Nat→Nat→List BP→K4
 |_,_,[]=>[]
 |i,n,p::l=>(match p with| .gone=>none|_=>if i<n then some i else none)::N7 (i+1) n l
def fi(T:G8)(c:O2)(rs:List ResultVar)(σ:St):Option c.outs.V:=
 (eO T σ rs).bind fun x=>(c.outs.fit σ.bx.length (N7 0 c.ins.Ed.length c.outs.Ed) [x] (c.outs.opens σ.bx)).map fun q=>q.1
def FW(C:Xj)(c:O2)(fn:Func)(J:Nat→St→Option c.outs.V)(ω:List Bool)(v:c.ins.V):Option c.outs.V:=
 match fn.body with
 |some code=>run C J code (fun _=>fi C.T c fn.results.toList) (fun _ _ _=>none) (fun _=>fi C.T c fn.results.toList) ω (c.ins.st fn.ntmps v)
 |none=>none
def GH(C:Xj)(c:O2)(fn:Func)(J:Nat→St→Option c.outs.V)(ℓ :Nat)(ω:List Bool)(σ:St):Option c.outs.V:=
 match fn.body with
 |some code=>
  match find C J ℓ code (fun _=>fi C.T c fn.results.toList) (fun _ _ _=>none) (fun _=>fi C.T c fn.results.toList)with
  |some f=>f ω σ
  |none=>none
 |none=>none
def AV.fN(b:Nat)(r:Ty)(rows:List r.D):AV→AV
 | .ref k []=>if k=b then .sl true r rows else .ref k []
 |x=>x
def XV.fN(b:Nat)(r:Ty)(rows:List r.D):XV→XV
 | .c x=> .c (x.fN b r rows)
 |x=>x
def Bx.fN(b:Nat)(r:Ty)(rows:List r.D):Bx→Bx
 | .mem cs=> .mem (cs.map (AV.fN b r rows))
 |x=>x
def St.fN(b:Nat)(σ:St):St:=
 match σ.bx[b]? with
 |some (.sl _ r rows)=>{ tm:=σ.tm.map (XV.fN b r rows),bx:=(σ.bx.set b .dead).map (Bx.fN b r rows) }
 |_=>σ
def LS:List AP→List AV→St→St
 | .sl true _::l,.ref b []::xs,σ=>LS l xs (σ.fN b)
 |_::l,_::xs,σ=>LS l xs σ
 |_,_,σ=>σ
def LQ(bs:List BP):List (Nat×XP)→St→St
 |[],σ=>σ
 |(i,.c (.sl true r))::l,σ=>
  match σ.tm[i]? with
  |some (.c x)=>LQ bs l (LS [.sl true r] [x] σ)
  |_=>LQ bs l σ
 |(i,.c (.ptr k _))::l,σ=>
  match bs[k]?,σ.tm[i]? with
  |some (.mem ps),some (.c (.FY b _))=>
   match σ.bx[b]? with
   |some (.mem cs)=>LQ bs l (LS ps cs σ)
   |_=>LQ bs l σ
  |_,_=>LQ bs l σ
 |_::l,σ=>LQ bs l σ
def AV.iB:AV→Bool
 | .ref _ _| .win _ _ _ _| .sl _ _ _| .nil=>true
 |_=>false
def St.forget(b j:Nat)(σ:St):St:=
 match σ.bx[b]? with
 |some (.mem cs)=>
  match cs[j]? with
  |some x=>if x.iB then{ σ with bx:=σ.bx.set b (.mem (cs.set j (.ref σ.bx.length [])))++[.dead] }else σ
  |none=>σ
 |_=>σ
def Qu(bs:List BP)(b:Nat):Nat→List AP→St→St
 |_,[],σ=>σ
 |j,p::l,σ=>Qu bs b (j+1) l (match p with
  | .ref q=>match bs[q]? with
   |some .gone=>σ.forget b j
   |_=>σ
  |_=>σ)
def V8(bs:List BP):List (Nat×XP)→St→St
 |[],σ=>σ
 |(i,p)::l,σ=>V8 bs l (match p with
  | .c (.ptr k _)=>match bs[k]?,σ.tm[i]? with
   |some (.mem ps),some (.c (.FY b _))=>Qu bs b 0 ps σ
   |_,_=>σ
  |_=>σ)
def jump(nb:Nat)(s:Bn)(f:s.V→Option Y)(σ:St):Option Y:=
 if nb≤s.Ed.length then
  let σ:=V8 s.Ed s.Co (LQ s.Ed s.Co σ)
  (s.fit σ.bx.length (N7 0 nb s.Ed) σ.tm (s.opens σ.bx)).bind fun q=>f q.1
 else none
end
end Go.Fw
end
section
namespace Go.Fw
def Bp(w:World)(b o:Nat)(cs:List Value):Prop:= ∀j v,cs[j]? =some v→w.cell? ⟨b,o+j,none⟩=some v
def Rd(w:World)(B:Nat→Prop):(t:Ty)→List Value→t.D→Prop
 | .int k,vs,x=>vs=[.int k x]
 | .bool,vs,x=>vs=[.bool x]
 | .str,vs,x=>vs=[.string ⟨x.toArray⟩]
 | .sl r,vs,x=> ∃a cap,vs=[.slice a (List.length x) cap]∧List.length x≤cap∧(List.length x=0∨ ∃b o,a=some ⟨b,o,none⟩∧B b∧
  ∀(i:Nat) (y:r.D),x[i]? =some y→ ∃cs,cs.length=r.n∧Bp w b (o+i*r.n) cs∧Rd w B r cs y)
 | .unit,vs,_=>vs=[]
 | .cons c r,vs,x=> ∃v l,vs=v::l∧Rd w B c [v] x.1∧Rd w B r l x.2
def mG(fr:ABR)(n:Nat):Prop:= ∀i,i<n→ ¬(fr.1≤i∧i<fr.2)
def mk:Ty→Nat
 | .int .u8=>0
 |_=>1
def Ow(w:World)(S:Nat→Prop):(d:Nat)→(t:Ty)→List Value→t.D→List Nat→Prop
 |0,.sl r,vs,x,F=>Rd w S (.sl r) vs x∧F=[]
 |d+1,.sl r,vs,x,F=> ∃a cap,vs=[.slice a (List.length x) cap]∧List.length x≤cap∧
  ((
   cap=0∧F=[])∨ ∃b o arr ty fr Fs,a=some ⟨b,o,none⟩∧w.heap[b]? =some (.cells arr ty fr)∧o+cap*r.n≤arr.size∧mG fr (arr.size+mk r)∧
   F=b::List.flatten Fs∧Fs.length=List.length x∧
   ∀(i:Nat) (y:r.D) (G:AAz),x[i]? =some y→Fs[i]? =some G→ ∃cs,cs.length=r.n∧Bp w b (o+i*r.n) cs∧Ow w S d r cs y G)
 |d,.cons c r,vs,x,F=> ∃v l F1 F2,vs=v::l∧F=F1++F2∧Ow w S d c [v] x.1 F1∧Ow w S d r l x.2 F2
 |_,.unit,vs,_,F=>vs=[]∧F=[]
 |_,.int k,vs,x,F=>vs=[.int k x]∧F=[]
 |_,.bool,vs,x,F=>vs=[.bool x]∧F=[]
 |_,.str,vs,x,F=>vs=[.string ⟨x.toArray⟩]∧F=[]
theorem aP{w B}:∀{t:Ty} {vs x},Rd w B t vs x→vs.length=t.n
 | .int _,_,_,h=>by simp only[Rd]at h;subst h;rfl
 | .bool,_,_,h=>by simp only[Rd]at h;subst h;rfl
 | .str,_,_,h=>by simp only[Rd]at h;subst h;rfl
 | .sl _,_,_,h=>by simp only[Rd]at h;obtain⟨_,_,h,_⟩:=h;subst h;rfl
 | .unit,_,_,h=>by simp only[Rd]at h;subst h;rfl
 | .cons _ _,_,_,h=>by
  simp only[Rd]at h;obtain⟨_,_,rfl,_,h⟩:=h;simp[Ty.n,aP h]
theorem RM{w S}:∀{d} {t:Ty} {vs x F},Ow w S d t vs x F→vs.length=t.n
 |_,.int _,_,_,_,h=>by simp only[Ow]at h;rw[h.1];rfl
 |_,.bool,_,_,_,h=>by simp only[Ow]at h;rw[h.1];rfl
 |_,.str,_,_,_,h=>by simp only[Ow]at h;rw[h.1];rfl
 |0,.sl _,_,_,_,h=>by simp only[Ow]at h;exact aP h.1
 |_+1,.sl _,_,_,_,h=>by simp only[Ow]at h;obtain⟨_,_,h,_⟩:=h;subst h;rfl
 |_,.unit,_,_,_,h=>by simp only[Ow]at h;rw[h.1];rfl
 |_,.cons _ _,_,_,_,h=>by
  simp only[Ow]at h;obtain⟨_,_,_,_,rfl,_,_,h⟩:=h;simp[Ty.n,RM h]
theorem Bp.of_block{w w':World}{b o:Nat}{cs:List Value}(h:Bp w b o cs)(hb:w'.heap[b]? =w.heap[b]?):Bp w' b o cs:=
 fun j v hj=>(World.cell?_of_block (a:=⟨b,o+j,none⟩) hb).trans (h j v hj)
theorem DV{w w':World}{B B':Nat→Prop}(hB:∀b,B b→B' b)(hw:∀b,B b→w'.heap[b]? =w.heap[b]?):∀{t:Ty} {vs x},Rd w B t vs x→Rd w' B' t vs x
 | .int _,_,_,h=>by simpa only[Rd]using h
 | .bool,_,_,h=>by simpa only[Rd]using h
 | .str,_,_,h=>by simpa only[Rd]using h
 | .unit,_,_,h=>by simpa only[Rd]using h
 | .sl r,_,_,h=>by
  simp only[Rd]at h⊢;obtain⟨a,cap,h1,h2,h3⟩:=h;refine⟨a,cap,h1,h2,h3.imp id ?_⟩
  rintro⟨b,o,ha,hb,h⟩
  refine⟨b,o,ha,hB b hb,fun i y hy=> ?_⟩;obtain⟨cs,hl,hc,hr⟩:=h i y hy;exact⟨cs,hl,hc.of_block (hw b hb),DV hB hw hr⟩
 | .cons _ _,_,_,h=>by
  simp only[Rd]at h⊢;obtain⟨v,l,h1,h2,h3⟩:=h;exact⟨v,l,h1,DV hB hw h2,DV hB hw h3⟩
theorem Cr{w w':World}{S S':Nat→Prop}(hS:∀b,S b→S' b)(hw:∀b,S b→w'.heap[b]? =w.heap[b]?):
  ∀{d} {t:Ty} {vs x F},(∀b∈F,w'.heap[b]? =w.heap[b]?)→Ow w S d t vs x F→Ow w' S' d t vs x F
 |_,.int _,_,_,_,_,h=>by simpa only[Ow]using h
 |_,.bool,_,_,_,_,h=>by simpa only[Ow]using h
 |_,.str,_,_,_,_,h=>by simpa only[Ow]using h
 |_,.unit,_,_,_,_,h=>by simpa only[Ow]using h
 |0,.sl r,_,_,_,_,h=>by
  simp only[Ow]at h⊢;exact⟨DV hS hw h.1,h.2⟩
 |d+1,.sl r,_,x,F,hF,h=>by
  simp only[Ow]at h⊢;obtain⟨a,cap,h1,h2,h3⟩:=h;refine⟨a,cap,h1,h2,h3.imp id ?_⟩
  rintro⟨b,o,arr,ty,fr,Fs,ha,hb,h4,h5,h6,h7,h⟩
  subst h6;have s9:=hF b (by simp);refine⟨b,o,arr,ty,fr,Fs,ha,s9.trans hb,h4,h5,rfl,h7,fun i y G hy hG=> ?_⟩;obtain⟨cs,hl,hc,hr⟩:=h i y G hy hG;refine⟨cs,hl,hc.of_block s9,Cr hS hw (fun c hc=>hF c ?_) hr⟩;exact ALo _ (AJB.2 ⟨G,AIv hG,hc⟩)
 |_,.cons _ _,_,_,_,hF,h=>by
  simp only[Ow]at h⊢;obtain⟨v,l,F1,F2,h1,h2,h3,h4⟩:=h;subst h2;exact⟨v,l,F1,F2,h1,rfl,Cr hS hw (fun c hc=>hF c (by simp[hc])) h3,Cr hS hw (fun c hc=>hF c (by simp[hc])) h4⟩
theorem SV{w:World}{S:Nat→Prop}:∀{d} {t:Ty} {vs x F},Ow w S d t vs x F→Rd w (fun b=>S b∨b∈F) t vs x
 |_,.int _,_,_,_,h=>by simp only[Ow]at h;simp only[Rd];exact h.1
 |_,.bool,_,_,_,h=>by simp only[Ow]at h;simp only[Rd];exact h.1
 |_,.str,_,_,_,h=>by simp only[Ow]at h;simp only[Rd];exact h.1
 |_,.unit,_,_,_,h=>by simp only[Ow]at h;simp only[Rd];exact h.1
 |0,.sl r,_,_,_,h=>by
  simp only[Ow]at h;exact DV (fun b hb=> .inl hb) (fun _ _=>rfl) h.1
 |d+1,.sl r,_,x,F,h=>by
  simp only[Ow]at h;simp only[Rd];obtain⟨a,cap,h1,h2,h3⟩:=h;refine⟨a,cap,h1,h2,?_⟩;rcases h3 with⟨hc,_⟩|⟨b,o,arr,ty,fr,Fs,ha,hb,h4,h5,h6,h7,h⟩
  ·exact .inl (by omega)
  ·refine .inr ⟨b,o,ha,.inr (by simp[h6]),fun i y hy=> ?_⟩
   have hi:i<Fs.length:=by
    have:=(AG0.1 hy).1;omega
   obtain⟨cs,hl,hc,hr⟩:=h i y Fs[i] hy (AG7 hi);refine⟨cs,hl,hc,DV ?_ (fun _ _=>rfl) (SV hr)⟩;intro c XI;rcases XI with XI|XI
   ·exact .inl XI
   ·exact .inr (by rw[h6];exact ALo _ (AJB.2 ⟨_,AIu hi,XI⟩))
 |_,.cons _ _,_,_,_,h=>by
  simp only[Ow]at h;simp only[Rd];obtain⟨v,l,F1,F2,h1,h2,h3,h4⟩:=h;subst h2;refine⟨v,l,h1,DV ?_ (fun _ _=>rfl) (SV h3),DV ?_ (fun _ _=>rfl) (SV h4)⟩
  ·intro c hc;exact hc.imp id (by simp_all)
  ·intro c hc;exact hc.imp id (by simp_all)
theorem HB{w:World}{S:Nat→Prop}:∀{d d'} {t:Ty} {vs x F},d≤d'→Ow w S d' t vs x F→
  ∃F1 F2,F.Perm (F1++F2)∧Ow w (fun b=>S b∨b∈F2) d t vs x F1
 |_,_,.int _,_,_,_,_,h=>by simp only[Ow]at h⊢;exact⟨[],[],by rw[h.2];simp,h.1,rfl⟩
 |_,_,.bool,_,_,_,_,h=>by simp only[Ow]at h⊢;exact⟨[],[],by rw[h.2];simp,h.1,rfl⟩
 |_,_,.str,_,_,_,_,h=>by simp only[Ow]at h⊢;exact⟨[],[],by rw[h.2];simp,h.1,rfl⟩
 |_,_,.unit,_,_,_,_,h=>by simp only[Ow]at h⊢;exact⟨[],[],by rw[h.2];simp,h.1,rfl⟩
 |0,d',.sl r,_,x,F,_,h=>by
  refine⟨[],F,by simp,?_⟩;simp only[Ow];exact⟨SV h,trivial⟩
 |d+1,0,.sl r,_,x,F,hd,h=>by omega
 |d+1,d'+1,.sl r,_,x,F,hd,h=>by
  simp only[Ow]at h⊢;obtain⟨a,cap,h1,h2,h3⟩:=h;rcases h3 with⟨hc,hF⟩|⟨b,o,arr,ty,fr,Fs,ha,hb,h4,h5,h6,h7,h⟩
  ·exact⟨[],[],by simp[hF],a,cap,h1,h2,.inl ⟨hc,rfl⟩⟩
  ·have key:∀(n:Nat) (Fs:List AAz) (y:List r.D),Fs.length=n→y.length=n→(∀(i:Nat) (z:r.D) (G:AAz),y[i]? =some z→Fs[i]? =some G→ ∃cs,cs.length=r.n∧Bp w b (o+i*r.n) cs∧Ow w S d' r cs z G)→
     ∃(Gs:List AAz) (F2:AAz),Fs.flatten.Perm (Gs.flatten++F2)∧Gs.length=n∧ ∀(i:Nat) (z:r.D) (G:AAz),y[i]? =some z→Gs[i]? =some G→ ∃cs,cs.length=r.n∧Bp w b (o+i*r.n) cs∧Ow w (fun b=>S b∨b∈F2) d r cs z G:=by
    intro n
    induction n with
    |zero=>
     intro Fs y hF hy _;obtain rfl:=AI6 hF;exact⟨[],[],by simp,rfl,fun i z G _ hG=>by simp at hG⟩
    |succ n ih=>
     intro Fs y hF hy hh;obtain⟨Fs',G0,rfl⟩:∃l a,Fs=l++[a]:=⟨Fs.dropLast,Fs.getLast (by intro e;simp[e]at hF),(List.dropLast_concat_getLast _).symm⟩;obtain⟨y',z0,rfl⟩:∃l a,y=l++[a]:=⟨y.dropLast,y.getLast (by intro e;simp[e]at hy),(List.dropLast_concat_getLast _).symm⟩;simp only[AIj,AIK,AI4]at hF hy;obtain⟨Gs,F2,hp,hl,hg⟩:=ih Fs' y' (by omega) (by omega) (fun i z G hz hG=>hh i z G
      (by rw[AHR (AG0.1 hz).1];exact hz) (by rw[AHR (AG0.1 hG).1];exact hG))
     obtain⟨cs,Vm,hc,ho⟩:=hh n z0 G0 (by rw[AIw (by omega)];simp[show n-y'.length=0 by omega]) (by rw[AIw (by omega)];simp[show n-Fs'.length=0 by omega]);obtain⟨H1,H2,hhp,hho⟩:=HB (d:=d) (d':=d') (by omega) ho;refine⟨Gs++[H1],F2++H2,?_,by simp[hl],?_⟩
     ·simp only[AKl,AJn,AME,AIs]
      refine(hp.append hhp).trans ?_
      rw[AHH,AHH];refine AI_ _ ?_
      rw[←AHH,←AHH];exact AI2 _ AJA
     ·intro i z G hz hG
      by_cases hi:i<n
      ·rw[AHR (by omega)]at hz hG
       obtain⟨cs,e1,e2,e3⟩:=hg i z G hz hG;exact⟨cs,e1,e2,Cr (by intro c hc;exact hc.imp id (by simp_all)) (fun _ _=>rfl) (fun _ _=>rfl) e3⟩
      ·have:i=n:=by
        have:=(AG0.1 hz).1;simp at this;omega
       subst this;rw[AIw (by omega)]at hz hG;simp[show i-y'.length=0 by omega,show i-Gs.length=0 by omega]at hz hG;subst hz hG;exact⟨cs,Vm,hc,Cr (by intro c hc;exact hc.imp id (by simp_all)) (fun _ _=>rfl) (fun _ _=>rfl) hho⟩
   obtain⟨Gs,F2,hp,hl,hg⟩:=key _ Fs x h7 rfl h;refine⟨b::Gs.flatten,F2,?_,a,cap,h1,h2,.inr ⟨b,o,arr,ty,fr,Gs,ha,hb,h4,h5,rfl,hl,hg⟩⟩;rw[h6];exact List.Perm.cons _ hp
 |d,d',.cons _ _,_,_,_,hd,h=>by
  simp only[Ow]at h⊢;obtain⟨v,l,F1,F2,h1,h2,h3,h4⟩:=h;obtain⟨A1,A2,pa,oa⟩:=HB hd h3;obtain⟨B1,B2,pb,ob⟩:=HB hd h4;refine⟨A1++B1,A2++B2,?_,v,l,A1,B1,h1,rfl,Cr (by intro c hc;exact hc.imp id (by simp_all)) (fun _ _=>rfl) (fun _ _=>rfl) oa,Cr (by intro c hc;exact hc.imp id (by simp_all)) (fun _ _=>rfl) (fun _ _=>rfl) ob⟩;rw[h2];refine(pa.append pb).trans ?_
  rw[AHH,AHH];refine AI_ _ ?_
  rw[←AHH,←AHH];exact AI2 _ AJA
def RB(w:World):(t:Ty)→List Value→t.D→Nat→Prop
 | .sl r,vs,x,c=> ∃b o len cap,vs=[.slice (some ⟨b,o,none⟩) len cap]∧0<List.length x∧
  (c=b∨ ∃(i:Nat) (y:r.D) (cs:List Value),x[i]? =some y∧cs.length=r.n∧Bp w b (o+i*r.n) cs∧RB w r cs y c)
 | .cons c r,vs,x,d=> ∃v l,vs=v::l∧(RB w c [v] x.1 d∨RB w r l x.2 d)
 |_,_,_,_=>False
theorem Bp.unique{w:World}{b o:Nat}{cs ds:List Value}(h:Bp w b o cs)(k:Bp w b o ds)(hl:cs.length=ds.length):cs=ds:=by
 apply List.ext_getElem hl;intro i h1 h2;have e1:=h i _ (AG7 h1);have e2:=k i _ (AG7 h2);rw[e1]at e2;exact AL9 e2
theorem jX{w:World}{B:Nat→Prop}{c:Nat}:∀{t:Ty} {vs x},Rd w B t vs x→RB w t vs x c→B c
 | .int _,_,_,_,h=>by simp[RB]at h
 | .bool,_,_,_,h=>by simp[RB]at h
 | .str,_,_,_,h=>by simp[RB]at h
 | .unit,_,_,_,h=>by simp[RB]at h
 | .sl r,_,x,h,k=>by
  simp only[Rd]at h;simp only[RB]at k;obtain⟨a,cap,rfl,_,h⟩:=h;obtain⟨b,o,len,cap',e,hl,k⟩:=k;simp only[AJD,Value.slice.injEq,AKa]at e;obtain⟨rfl,rfl,rfl⟩:=e;rcases h with h|⟨b',o',e,hb,h⟩
  ·omega
  simp only[AG9,Addr.mk.injEq,AKa]at e;obtain⟨rfl,rfl⟩:=e;rcases k with rfl|⟨i,y,cs,hy,Vm,hca,k⟩
  ·exact hb
  ·obtain⟨ds,d1,d2,d3⟩:=h i y hy
   have:=hca.unique d2 (by omega);subst this;exact jX d3 k
 | .cons _ _,_,_,h,k=>by
  simp only[Rd]at h;simp only[RB]at k;obtain⟨v,l,rfl,h1,h2⟩:=h;obtain⟨v',l',e,k⟩:=k;cases e;exact k.elim (jX h1) (jX h2)
theorem cL{w w':World}{c:Nat}:∀{t:Ty} {vs x},(∀d,RB w t vs x d→w'.heap[d]? =w.heap[d]?)→RB w t vs x c→RB w' t vs x c
 | .int _,_,_,_,h=>by simp[RB]at h
 | .bool,_,_,_,h=>by simp[RB]at h
 | .str,_,_,_,h=>by simp[RB]at h
 | .unit,_,_,_,h=>by simp[RB]at h
 | .sl r,_,x,h,k=>by
  simp only[RB]at h k⊢;obtain⟨b,o,len,cap,e,hl,k⟩:=k;refine⟨b,o,len,cap,e,hl,?_⟩;rcases k with rfl|⟨i,y,cs,hy,Vm,hca,k⟩
  ·exact .inl rfl
  ·have hb:=h b ⟨b,o,len,cap,e,hl,.inl rfl⟩
   exact .inr ⟨i,y,cs,hy,Vm,hca.of_block hb,cL (fun d hd=>h d ⟨b,o,len,cap,e,hl,.inr ⟨i,y,cs,hy,Vm,hca,hd⟩⟩) k⟩
 | .cons _ _,_,_,h,k=>by
  simp only[RB]at h k⊢;obtain⟨v,l,e,k⟩:=k;refine⟨v,l,e,k.elim (fun k=> .inl (cL (fun d hd=>h d ⟨v,l,e,.inl hd⟩) k)) (fun k=> .inr (cL (fun d hd=>h d ⟨v,l,e,.inr hd⟩) k))⟩
end Go.Fw
end
section
namespace Go.Fw
def Bi{α β:Type}(R:α→β→Prop):List α→List β→Prop
 |[],[]=>True
 |a::l,b::m=>R a b∧Bi R l m
 |_,_=>False
theorem Bi.len{α β:Type}{R:α→β→Prop}:∀{l:List α} {m:List β},Bi R l m→l.length=m.length
 |[],[],_=>rfl
 |_::_,_::_,h=>by simp[Bi.len h.2]
theorem Bi.get{α β:Type}{R:α→β→Prop}:∀{l:List α} {m:List β} {i:Nat} {a:α},Bi R l m→l[i]? =some a→ ∃b,m[i]? =some b∧R a b
 |_::_,_::_,0,a,h,e=>by simp at e;subst e;exact⟨_,rfl,h.1⟩
 |_::_,_::_,i+1,a,h,e=>by
  obtain⟨b,hb,hr⟩:=Bi.get (i:=i) h.2 (by simpa using e);exact⟨b,by simpa using hb,hr⟩
 |[],[],_,_,_,e=>by simp at e
theorem Bi.imp{α β:Type}{R S:α→β→Prop}(h:∀a b,R a b→S a b):∀{l:List α} {m:List β},Bi R l m→Bi S l m
 |[],[],_=>trivial
 |_::_,_::_,k=>⟨h _ _ k.1,Bi.imp h k.2⟩
structure Env where
 Ff:Nat→Nat
 Ft:Nat→Value
 T:Nat→Prop
 S:Nat→Prop
def Gt(w:World):Value→List bE→Option Value
 |h,[]=>some h
 | .slice (some a) _ _,s::p=>
  match w.cell? ⟨a.block,a.off+s.i*s.sz+s.j,none⟩with
  |some h=>Gt w h p
  |none=>none
 |_,_::_=>none
def CI:(r:Ty)→List r.D→List bE→Prop
 |_,_,[]=>True
 |r,rows,s::p=>s.i<rows.length∧s.sz=r.n∧
  match Ai r s.j (rowAt r rows s.i)with
  |some ⟨.sl q,x⟩=>CI q x p
  |_=>False
def NW(sz off n:Nat)(a:Option Addr)(cap:Nat):Value:=
 .slice (if cap=off then a else a.map (·.add (off*sz))) n (cap-off)
def isSlice:Value→Bool
 | .slice .. =>true
 |_=>false
def VJ:Value→Bool
 | .pointer (some ⟨_,_,none⟩)=>true
 |_=>false
def RA(E:Env)(w:World)(q:(r:Ty)×r.D)(p:Value):Prop:= ∃bb o cs,p= .pointer (some ⟨bb,o,none⟩)∧E.T bb∧cs.length=q.1.n∧Bp w bb o cs∧Rd w E.T q.1 cs q.2
def VR(E:Env)(w:World)(vw:List Bx):AV→Value→Prop
 | .v t x,v=>t.scalar=true∧Rd w (fun _=>False) t [v] x
 | .sl s r x,v=>Rd w (if s then E.S else E.T) (.sl r) [v] x
 | .nil,v=>v= .slice none 0 0
 | .ref b p,v=>isSlice v=true∧match vw[b]? with
  |some (.sl _ r rows)=>CI r rows p∧(∃q,Ee r rows p=some q)∧Gt w (E.Ft b) p=some v
  |some _=>True
  |none=>False
 | .win b p off n,v=>isSlice v=true∧match vw[b]? with
  |some (.sl _ r rows)=>CI r rows p∧ ∃q ys a len cap,Ee r rows p=some ⟨q,ys⟩∧off+n≤List.length ys∧Gt w (E.Ft b) p=some (.slice a len cap)∧v=NW q.n off n a cap
  |some _=>True
  |none=>False
 | .FY b j,v=>b<vw.length∧v= .pointer (some ⟨E.Ff b,j,none⟩)
 | .Gd b p i sz j,v=>VJ v=true∧match vw[b]? with
  |some (.sl _ r rows)=>CI r rows p∧ ∃q ys bb o len cap,Ee r rows p=some ⟨q,ys⟩∧i<List.length ys∧Gt w (E.Ft b) p=some (.slice (some ⟨bb,o,none⟩) len cap)∧v= .pointer (some ⟨bb,o+i*sz+j,none⟩)
  |some _=>True
  |none=>False
 | .KB s r x j,v=> ∃bb o cs,v= .pointer (some ⟨bb,o+j,none⟩)∧(if s then E.S else E.T) bb∧cs.length=r.n∧Bp w bb o cs∧Rd w (if s then E.S else E.T) r cs x
 | .fn f G6,v=>(∀b∈G6,b<vw.length)∧v= .func (.func f) #[] (G6.map fun b=>Value.pointer (some ⟨E.Ff b,0,none⟩)).toArray
 | .gf f rows,v=> ∃ps:List Value,v= .func (.func f) #[] ps.toArray∧Bi (RA E w) rows ps
 | .mT,v=>v= .pointer none
 | .undef,_=>True
def YM(E:Env)(w:World)(vw:List Bx)(l:List AV)(vs:List Value):Prop:=Bi (VR E w vw) l vs
def TR(E:Env)(w:World)(vw:List Bx):AV ⊕ List AV→Value→Prop
 | .inl x,v=>VR E w vw x v
 | .inr q,v=> ∃vs,v= .agg vs∧YM E w vw q vs.toList
def XR(E:Env)(w:World)(vw:List Bx):XV→Value→Prop
 | .c x,v=>VR E w vw x v
 | .agg l,v=> ∃vs,v= .agg vs∧YM E w vw l vs.toList
 | .Ju l,v=> ∃vs,v= .tuple vs∧Bi (TR E w vw) l vs.toList
def eW(E:Env)(w:World)(vw:List Bx)(k:Nat):Bx→List Nat→Prop
 | .mem cs,F=>F=[E.Ff k]∧ ∃arr ty fr,w.heap[E.Ff k]? =some (.cells arr ty fr)∧mG fr (arr.size+1)∧YM E w vw cs arr.toList
 | .sl d r rows,F=>1≤d∧Ow w E.S d (.sl r) [E.Ft k] rows F
 | .dead,F=>F=[]
structure Sep (E:Env) (w:World) (F:AAz):Prop where
 nodup:F.Nodup
 free:∀c∈F,¬E.T c
 lt:∀c∈F,c<w.heap.size
 st:∀c,E.S c→E.T c
 XS:∀c,E.T c→c<w.heap.size
def JV(E:Env)(w:World)(vw bx:List Bx)(Fs:List AAz):Prop:=
 Fs.length=bx.length∧ ∀k B F,bx[k]? =some B→Fs[k]? =some F→eW E w vw k B F
def CD(E:Env)(w:World)(vw bx:List Bx)(G:AAz):Prop:=
 ∃Fs,JV E w vw bx Fs∧Sep E w (Fs.flatten++G)
structure Le (E E':Env):Prop where
 Ff:E'.Ff=E.Ff
 Ft:E'.Ft=E.Ft
 T:∀c,E.T c→E'.T c
 S:∀c,E.S c→E'.S c
 zM:∀c,E'.T c→E.T c∨E'.S c
 nc:∀c,E'.S c→E.S c∨ ¬E.T c
theorem Le.refl(E:Env):Le E E:=⟨rfl,rfl,fun _ h=>h,fun _ h=>h,fun _ h=> .inl h,fun _ h=> .inl h⟩
theorem Le.trans{E E' re:Env}(h:Le E E')(k:Le E' re):Le E re:=
 ⟨k.Ff.trans h.Ff,k.Ft.trans h.Ft,fun c hc=>k.T c (h.T c hc),fun c hc=>k.S c (h.S c hc),
  fun c hc=>(k.zM c hc).elim (fun h' =>(h.zM c h').imp id (k.S c)) .inr,
  fun c hc=>(k.nc c hc).elim (h.nc c) (fun h' => .inr fun ht=>h' (h.T c ht))⟩
theorem Wi{w B}:∀{r:Ty} {cs x j t y},Rd w B r cs x→Ai r j x=some ⟨t,y⟩→ ∃v,cs[j]? =some v∧Rd w B t [v] y
 | .cons c r,cs,x,0,t,y,h,e=>by
  simp only[Rd]at h;obtain⟨v,l,rfl,h1,h2⟩:=h;simp only[Ai,AG9,AIx]at e;obtain⟨rfl,e⟩:=e;obtain rfl:=AJE e;exact⟨v,rfl,h1⟩
 | .cons c r,cs,x,j+1,t,y,h,e=>by
  simp only[Rd]at h;obtain⟨v,l,rfl,h1,h2⟩:=h;simp only[Ai]at e;obtain⟨u,hu,hr⟩:=Wi h2 e;exact⟨u,by simpa using hu,hr⟩
 | .int k,cs,x,0,t,y,h,e=>by
  simp only[Ai,AG9,AIx]at e;obtain⟨rfl,e⟩:=e;obtain rfl:=AJE e;simp only[Rd]at h;subst h;exact⟨_,rfl,by simp only[Rd]⟩
 | .bool,cs,x,0,t,y,h,e=>by
  simp only[Ai,AG9,AIx]at e;obtain⟨rfl,e⟩:=e;obtain rfl:=AJE e;simp only[Rd]at h;subst h;exact⟨_,rfl,by simp only[Rd]⟩
 | .str,cs,x,0,t,y,h,e=>by
  simp only[Ai,AG9,AIx]at e;obtain⟨rfl,e⟩:=e;obtain rfl:=AJE e;simp only[Rd]at h;subst h;exact⟨_,rfl,by simp only[Rd]⟩
 | .sl r,cs,x,0,t,y,h,e=>by
  simp only[Ai,AG9,AIx]at e;obtain⟨rfl,e⟩:=e;obtain rfl:=AJE e;have h':=h;simp only[Rd]at h;obtain⟨a,cap,rfl,_⟩:=h;exact⟨_,rfl,h'⟩
 | .unit,_,_,_,_,_,_,e=>by simp[Ai]at e
 | .int _,_,_,_+1,_,_,_,e=>by simp[Ai]at e
 | .bool,_,_,_+1,_,_,_,e=>by simp[Ai]at e
 | .str,_,_,_+1,_,_,_,e=>by simp[Ai]at e
 | .sl _,_,_,_+1,_,_,_,e=>by simp[Ai]at e
theorem MS{r:Ty}{rows:List r.D}{i:Nat}(h:i<rows.length):rows[i]? =some (rowAt r rows i):=by
 simp[rowAt,h]
theorem cT{w:World}{B:Nat→Prop}:∀{p:List bE} {r:Ty} {h:Value} {rows:List r.D} {q:Ty} {ys:List q.D},
  Rd w B (.sl r) [h] rows→CI r rows p→Ee r rows p=some ⟨q,ys⟩→
  ∃h',(∀w':World,(∀b,B b→w'.heap[b]? =w.heap[b]?)→Gt w' h p=some h')∧Rd w B (.sl q) [h'] ys
 |[],r,h,rows,q,ys,hr,_,hg=>by
  simp only[Ee,AG9,AIx]at hg;obtain⟨rfl,e⟩:=hg;obtain rfl:=AJE e;exact⟨h,fun w' _=>by cases h<;>rfl,hr⟩
 |s::p,r,h,rows,q,ys,hr,hp,hg=>by
  simp only[CI]at hp;obtain⟨hi,LJ,hp⟩:=hp;simp only[Ee]at hg;simp only[Rd]at hr;obtain⟨a,cap,hh,_,hr⟩:=hr;obtain rfl:=(List.cons.inj hh).1;rcases hr with hr|⟨b,o,rfl,hb,hr⟩
  ·omega
  obtain⟨cs,hl,hc,hrow⟩:=hr s.i _ (MS hi);split at hg
  ·rename_i q' x' V5
   rw[V5]at hp;obtain⟨v,hv,hrv⟩:=Wi hrow V5;obtain⟨h',hh',Rv⟩:=cT hrv hp hg;refine⟨h',fun w' hw' => ?_,Rv⟩;simp only[Gt];have SF:w'.cell? ⟨b,o+s.i*s.sz+s.j,none⟩=some v:=by
    rw[LJ];exact(World.cell?_of_block (a:=⟨b,_,none⟩) (hw' b hb)).trans (hc _ _ hv)
   rw[SF];exact hh' w' hw'
  ·cases hg
theorem B6{w:World}{h:Value}:Gt w h []=some h:=by cases h<;>rfl
structure Np (E:Env) (w:World) (vw:List Bx) (E':Env) (w':World) (vw':List Bx):Prop where
 len:vw.length≤vw'.length
 Ff:∀b,b<vw.length→E'.Ff b=E.Ff b
 T:∀b,E.T b→E'.T b
 S:∀b,E.S b→E'.S b
 st:∀b,E.S b→E.T b
 heap:∀b,E.T b→w'.heap[b]? =w.heap[b]?
 box:∀b d r rows,b<vw.length→vw'[b]? =some (.sl d r rows)→ ∃d0 MA,vw[b]? =some (.sl d0 r MA)∧
  ∀p,CI r MA p→ ∀q ys,Ee r MA p=some ⟨q,ys⟩→CI r rows p∧(∃ec,Ee r rows p=some ⟨q,ec⟩∧List.length ec=List.length ys)∧
   ∀h,Gt w (E.Ft b) p=some h→Gt w' (E'.Ft b) p=some h
theorem K6{α:Type}{l l':List α}{b:Nat}{x:α}(h:l.length≤l'.length)(e:l[b]? =some x):∃y,l'[b]? =some y:=
 ⟨l'[b]'(AJW (AG0.1 e).1 h),AG7 _⟩
theorem EB{E E':Env}{w w':World}{vw vw':List Bx}(k:Np E w vw E' w' vw'):∀{x:AV} {v:Value},VR E w vw x v→VR E' w' vw' x v:=by
 intro x v h;cases x with
 |v t x=>exact⟨h.1,DV (fun _ h=>h) (fun _ h=>h.elim) h.2⟩
 |sl s r x=>
  simp only[VR]at h⊢;cases s with
  |false=>exact DV k.T k.heap (by simpa using h)
  |true=>exact DV k.S (fun b hb=>k.heap b (k.st b hb)) (by simpa using h)
 |nil=>exact h
 |ref b p=>
  simp only[VR]at h⊢;obtain⟨h0,h⟩:=h;refine⟨h0,?_⟩;cases e:vw[b]? with
  |none=>rw[e]at h;exact h.elim
  |some B=>
   rw[e]at h;have Dl:=(AG0.1 e).1;obtain⟨B',e'⟩:=K6 k.len e;rw[e'];cases B' with
   |mem cs=>trivial
   |dead=>trivial
   |sl d r rows=>
    obtain⟨d0,MA,e0,hk⟩:=k.box b d r rows Dl e';rw[e]at e0;cases e0;simp only at h;obtain⟨hp,⟨⟨q,ys⟩,hg⟩,hh⟩:=h;obtain⟨k1,⟨ec,k2,_⟩,k3⟩:=hk p hp q ys hg;exact⟨k1,⟨_,k2⟩,k3 _ hh⟩
 |win b p off n=>
  simp only[VR]at h⊢;obtain⟨h0,h⟩:=h;refine⟨h0,?_⟩;cases e:vw[b]? with
  |none=>rw[e]at h;exact h.elim
  |some B=>
   rw[e]at h;have Dl:=(AG0.1 e).1;obtain⟨B',e'⟩:=K6 k.len e;rw[e'];cases B' with
   |mem cs=>trivial
   |dead=>trivial
   |sl d r rows=>
    obtain⟨d0,MA,e0,hk⟩:=k.box b d r rows Dl e';rw[e]at e0;cases e0;simp only at h;obtain⟨hp,q,ys,a,len,cap,hg,hl,hh,hv⟩:=h;obtain⟨k1,⟨ec,k2,k4⟩,k3⟩:=hk p hp q ys hg;exact⟨k1,q,ec,a,len,cap,k2,by omega,k3 _ hh,hv⟩
 |FY b j=>exact⟨AJW h.1 k.len,by rw[h.2,k.Ff b h.1]⟩
 |Gd b p i sz j=>
  simp only[VR]at h⊢;obtain⟨h0,h⟩:=h;refine⟨h0,?_⟩;cases e:vw[b]? with
  |none=>rw[e]at h;exact h.elim
  |some B=>
   rw[e]at h;have Dl:=(AG0.1 e).1;obtain⟨B',e'⟩:=K6 k.len e;rw[e'];cases B' with
   |mem cs=>trivial
   |dead=>trivial
   |sl d r rows=>
    obtain⟨d0,MA,e0,hk⟩:=k.box b d r rows Dl e';rw[e]at e0;cases e0;simp only at h;obtain⟨hp,q,ys,bb,o,len,cap,hg,hl,hh,hv⟩:=h;obtain⟨k1,⟨ec,k2,k4⟩,k3⟩:=hk p hp q ys hg;exact⟨k1,q,ec,bb,o,len,cap,k2,by omega,k3 _ hh,hv⟩
 |KB s r x j=>
  simp only[VR]at h⊢;obtain⟨bb,o,cs,hv,hb,hl,hc,hr⟩:=h;cases s with
  |false=>exact⟨bb,o,cs,hv,k.T bb (by simpa using hb),hl,hc.of_block (k.heap bb (by simpa using hb)),DV k.T k.heap (by simpa using hr)⟩
  |true=>exact⟨bb,o,cs,hv,k.S bb (by simpa using hb),hl,hc.of_block (k.heap bb (k.st bb (by simpa using hb))),DV k.S (fun b hb=>k.heap b (k.st b hb)) (by simpa using hr)⟩
 |fn f G6=>
  refine⟨fun b hb=>AJW (h.1 b hb) k.len,?_⟩;rw[h.2];congr 2;exact AL2 fun b hb=>by rw[k.Ff b (h.1 b hb)]
 |gf f rows=>
  obtain⟨ps,hv,h⟩:=h;exact⟨ps,hv,h.imp fun q p ⟨bb,o,cs,h1,h2,h3,h4,h5⟩=>⟨bb,o,cs,h1,k.T bb h2,h3,h4.of_block (k.heap bb h2),DV k.T k.heap h5⟩⟩
 |mT=>exact h
 |undef=>trivial
theorem Kt{E E':Env}{w w':World}{vw vw':List Bx}(k:Np E w vw E' w' vw'):∀{x:XV} {v:Value},XR E w vw x v→XR E' w' vw' x v
 | .c _,_,h=>EB k h
 | .agg _,_,⟨vs,hv,h⟩=>⟨vs,hv,h.imp fun _ _ h=>EB k h⟩
 | .Ju l,_,⟨vs,hv,h⟩=>⟨vs,hv,h.imp fun
  | .inl _,_,h=>EB k h
  | .inr _,_,⟨ws,hw,h⟩=>⟨ws,hw,h.imp fun _ _ h=>EB k h⟩⟩
theorem Np.refl{E:Env}{w:World}{vw:List Bx}(st:∀b,E.S b→E.T b):Np E w vw E w vw:=
 ⟨AJI _,fun _ _=>rfl,fun _ h=>h,fun _ h=>h,st,fun _ _=>rfl,fun b d r rows _ h=>⟨d,rows,h,fun p hp q ys hg=>⟨hp,⟨ys,hg,rfl⟩,fun _ h=>h⟩⟩⟩
theorem Np.trans{E E' re:Env}{w w' w'':World}{vw vw' AIO:List Bx}(k:Np E w vw E' w' vw')(k':Np E' w' vw' re w'' AIO):Np E w vw re w'' AIO where
 len:=AJe k.len k'.len
 Ff:=fun b hb=>(k'.Ff b (AJW hb k.len)).trans (k.Ff b hb)
 T:=fun b h=>k'.T b (k.T b h)
 S:=fun b h=>k'.S b (k.S b h)
 st:=k.st
 heap:=fun b h=>(k'.heap b (k.T b h)).trans (k.heap b h)
 box:=fun b d r rows hb h=>by
  obtain⟨d1,AAq,h1,k1⟩:=k'.box b d r rows (AJW hb k.len) h;obtain⟨d0,MA,h0,k0⟩:=k.box b d1 r AAq hb h1;refine⟨d0,MA,h0,fun p hp q ys hg=> ?_⟩;obtain⟨a1,⟨ys1,a2,a3⟩,a4⟩:=k0 p hp q ys hg;obtain⟨b1,⟨ys2,b2,b3⟩,b4⟩:=k1 p a1 q ys1 a2;exact⟨b1,⟨ys2,b2,b3.trans a3⟩,fun h hh=>b4 h (a4 h hh)⟩
theorem jE{w w':World}{S:Nat→Prop}{d:Nat}{r:Ty}{h:Value}{rows:List r.D}{F:AAz}(ho:Ow w S d (.sl r) [h] rows F)
  (hS:∀b,S b→w'.heap[b]? =w.heap[b]?) (hF:∀b∈F,w'.heap[b]? =w.heap[b]?) {p:List bE} (hp:CI r rows p) {q:Ty} {ys:List q.D} (hg:Ee r rows p=some ⟨q,ys⟩)
  {h':Value} (hh:Gt w h p=some h'):Gt w' h p=some h':=by
 obtain⟨h1,k,_⟩:=cT (SV ho) hp hg;have e1:=k w (fun _ _=>rfl);rw[hh]at e1;cases e1;exact k w' fun b hb=>hb.elim (hS b) (hF b)
end Go.Fw
end
section
namespace Go.Fw
theorem Bi.set{α β:Type}{R:α→β→Prop}:∀{l:List α} {m:List β} {i:Nat} {a:α} {b:β},Bi R l m→R a b→Bi R (l.set i a) (m.set i b)
 |[],[],_,_,_,_,_=>trivial
 |_::_,_::_,0,_,_,h,r=>⟨r,h.2⟩
 |_::_,_::_,i+1,_,_,h,r=>⟨h.1,Bi.set h.2 r⟩
theorem Bi.append{α β:Type}{R:α→β→Prop}:∀{l:List α} {m:List β} {l':List α} {m':List β},Bi R l m→Bi R l' m'→Bi R (l++l') (m++m')
 |[],[],_,_,_,h=>h
 |_::_,_::_,_,_,h,k=>⟨h.1,Bi.append h.2 k⟩
theorem Bi.IA{α β γ:Type}{R:α→β→Prop}{S:γ→β→Prop}(f:α→γ)(h:∀a b,R a b→S (f a) b):∀{l:List α} {m:List β},Bi R l m→Bi S (l.map f) m
 |[],[],_=>trivial
 |_::_,_::_,k=>⟨h _ _ k.1,Bi.IA f h k.2⟩
theorem Bi.drop{α β:Type}{R:α→β→Prop}:∀{l:List α} {m:List β} (n:Nat),Bi R l m→Bi R (l.drop n) (m.drop n)
 |_,_,0,h=>h
 |[],[],_+1,_=>trivial
 |_::_,_::_,n+1,h=>Bi.drop n h.2
theorem Bi.take{α β:Type}{R:α→β→Prop}:∀{l:List α} {m:List β} (n:Nat),Bi R l m→Bi R (l.take n) (m.take n)
 |[],[],0,_=>trivial
 |_::_,_::_,0,_=>trivial
 |[],[],_+1,_=>trivial
 |_::_,_::_,n+1,h=>⟨h.1,Bi.take n h.2⟩
structure Wx (E0:Env) (w0:World) (E:Env) (w:World):Prop where
 T:∀c,E0.T c→E.T c
 S:∀c,E0.S c→E.S c
 zM:∀c,E.T c→E0.T c∨E.S c
 nc:∀c,E.S c→E0.S c∨ ¬E0.T c
 heap:∀c,E0.T c→w.heap[c]? =w0.heap[c]?
 os:w.os=w0.os
 tape:w.tape=w0.tape
 output:w.output=w0.output
 size:w0.heap.size≤w.heap.size
theorem Wx.refl(E:Env)(w:World):Wx E w E w:=⟨fun _ h=>h,fun _ h=>h,fun _ h=> .inl h,fun _ h=> .inl h,fun _ _=>rfl,rfl,rfl,rfl,AJI _⟩
theorem Wx.trans{E E' re:Env}{w w' w'':World}(h:Wx E w E' w')(k:Wx E' w' re w''):Wx E w re w'':=
 ⟨fun c hc=>k.T c (h.T c hc),fun c hc=>k.S c (h.S c hc),fun c hc=>(k.zM c hc).elim (fun h' =>(h.zM c h').imp id (k.S c)) .inr,
  fun c hc=>(k.nc c hc).elim (h.nc c) (fun h' => .inr fun ht=>h' (h.T c ht)),fun c hc=>(k.heap c (h.T c hc)).trans (h.heap c hc),
  k.os.trans h.os,k.tape.trans h.tape,k.output.trans h.output,AJe h.size k.size⟩
theorem Le.base{E E':Env}(h:Le E E')(w:World):Wx E w E' w:=⟨h.T,h.S,h.zM,h.nc,fun _ _=>rfl,rfl,rfl,rfl,AJI _⟩
def lS(E:Env)(w:World)(k:Nat):Bx→Nat→Prop
 | .mem _,c=>c=E.Ff k
 | .sl _ r rows,c=>RB w (.sl r) [E.Ft k] rows c
 | .dead,_=>False
def Pg:Bx→Bx→Prop
 | .mem _,.mem _=>True
 | .sl _ r x,.sl _ q y=>(⟨r,x⟩:(r:Ty)×List r.D)=⟨q,y⟩
 |_,_=>False
structure Mb (t:AAz) (E0:Env) (bx0:List Bx) (w0:World) (E:Env) (bx:List Bx) (w:World):Prop where
 base:Wx E0 w0 E w
 len:bx0.length≤bx.length
 ids:∀b,b<bx0.length→E.Ff b=E0.Ff b∧E.Ft b=E0.Ft b
 dead:∀b:Nat,bx0[b]? =some Bx.dead→bx[b]? =some Bx.dead
 frame:∀(n:Nat) B B',n∉t→bx0[n]? =some B→bx[n]? =some B'→B'≠ .dead→Pg B B'∧ ∀c,lS E0 w0 n B c→w.heap[c]? =w0.heap[c]?
theorem Mb.any{E E':Env}{bx Ls:List Bx}{w w':World}(h:Mb [] E bx w E' Ls w'){t:AAz}:Mb t E bx w E' Ls w':=
 ⟨h.base,h.len,h.ids,h.dead,fun n B B' _=>h.frame n B B' (by simp)⟩
theorem Pg.refl{B:Bx}(h:B≠ .dead):Pg B B:=by cases B<;>simp_all[Pg]
theorem Mb.refl(t:AAz)(E:Env)(bx:List Bx)(w:World):Mb t E bx w E bx w:=⟨Wx.refl E w,AJI _,fun _ _=>⟨rfl,rfl⟩,fun _ h=>h,fun n B B' _ h h' hd=>by
 rw[h]at h';cases h';exact⟨Pg.refl hd,fun _ _=>rfl⟩⟩
theorem Wj{E:Env}{w:World}{vw:List Bx}{k:Nat}{B:Bx}{F:AAz}{c:Nat}(h:eW E w vw k B F)(hc:lS E w k B c):E.S c∨c∈F:=by
 cases B with
 |mem cs=>obtain⟨rfl,_⟩:=h;right;simp[lS]at hc;simp[hc]
 |sl d r rows=>exact jX (SV h.2) hc
 |dead=>exact hc.elim
structure Rel (E:Env) (σ:St) (a:Act) (w:World):Prop where
 Jo:a.defers=[]
 tm:Bi (XR E w σ.bx) σ.tm a.tmps.toList
 bx:CD E w σ.bx σ.bx []
theorem Rel.put{E:Env}{σ:St}{a:Act}{w:World}(h:Rel E σ a w)(dst:Option Tmp){x:XV}{v:Value}(hx:XR E w σ.bx x v):Rel E (σ.put dst x) (a.put dst v) w:=by
 cases dst with
 |none=>exact h
 |some d=>exact⟨h.Jo,by simpa[St.put,Act.put]using Bi.set h.tm hx,h.bx⟩
theorem Bi.AEn{E:Env}{w:World}{vw:List Bx}{l:List XV}{m:Array Value}(h:Bi (XR E w vw) l m.toList)(t:Nat):XR E w vw (l.getD t (.c .undef)) (m.getD t undef):=by
 by_cases ht:t<l.length
 ·have e:l[t]? =some l[t]:=AG7 ht
  obtain⟨b,hb,hr⟩:=h.get e;have:m[t]? =some b:=by simpa using hb
  simp only[ALu,e,AK_,ALs,this];exact hr
 ·have e:l[t]? =none:=by simp;omega
  simp only[ALu,e,Option.getD_none]
  trivial
theorem iD{E:Env}{w:World}{vw:List Bx}(v:Value):VR E w vw (fC v) v:=by
 unfold fC;split<;>first
  |trivial
  |exact⟨rfl,by simp[Rd]⟩
  |rfl
theorem aj{E:Env}{w:World}{vw:List Bx}:∀(l:List Value),YM E w vw (l.map fC) l
 |[]=>trivial
 |a::l=>⟨iD a,aj l⟩
theorem mK{E:Env}{w:World}{vw:List Bx}(v:Value):XR E w vw (ofValue v) v:=by
 unfold ofValue;split
 ·rename_i cs
  exact⟨cs,rfl,aj cs.toList⟩
 ·exact iD v
theorem Rel.ev{E:Env}{σ:St}{a:Act}{w:World}(h:Rel E σ a w)(x:Operand):XR E w σ.bx (σ.ev x) (a.eval x):=by
 cases x with
 |tmp t=>exact Bi.AEn h.tm t
 |const v=>exact mK v
 |global g=>trivial
 |func f=>exact⟨by simp,rfl⟩
theorem PG{b:Nat}:∀{Fs:List AAz} {F:AAz},Fs[b]? =some F→Fs.flatten.Perm (F++(Fs.set b []).flatten):=by
 induction b with
 |zero=>
  intro Fs F h;cases Fs with
  |nil=>simp at h
  |cons A l=>simp at h;subst h;simp
 |succ b ih=>
  intro Fs F h;cases Fs with
  |nil=>simp at h
  |cons A l=>
   have:=ih (Fs:=l) (F:=F) (by simpa using h);simp only[List.set_cons_succ,AJn];refine(AI_ A this).trans ?_
   rw[←AHH,←AHH];exact AI2 _ AJA
theorem Sep.perm{E:Env}{w:World}{F F':AAz}(h:Sep E w F)(p:F.Perm F'):Sep E w F':=
 ⟨p.nodup_iff.1 h.nodup,fun c hc=>h.free c (p.mem_iff.2 hc),fun c hc=>h.lt c (p.mem_iff.2 hc),h.st,h.XS⟩
theorem Sep.sub{E:Env}{w:World}{F F':AAz}(h:Sep E w (F++F')):Sep E w F:=
 ⟨(AIJ.1 h.nodup).1,fun c hc=>h.free c (by simp[hc]),fun c hc=>h.lt c (by simp[hc]),h.st,h.XS⟩
theorem CD.perm{E:Env}{w:World}{vw bx:List Bx}{G G':AAz}(h:CD E w vw bx G)(p:G.Perm G'):CD E w vw bx G':=
 let⟨Fs,h1,h2⟩:=h
 ⟨Fs,h1,h2.perm (AI_ _ p)⟩
theorem CD.drop{E:Env}{w:World}{vw bx:List Bx}{G G':AAz}(h:CD E w vw bx (G++G')):CD E w vw bx G:=
 let⟨Fs,h1,h2⟩:=h
 ⟨Fs,h1,by rw[←AHH]at h2;exact h2.sub⟩
theorem CD.st{E:Env}{w:World}{vw bx:List Bx}{G:AAz}(h:CD E w vw bx G):∀c,E.S c→E.T c:=let⟨_,_,h⟩:=h;h.st
theorem CD.XS{E:Env}{w:World}{vw bx:List Bx}{G:AAz}(h:CD E w vw bx G):∀c,E.T c→c<w.heap.size:=let⟨_,_,h⟩:=h;h.XS
theorem CD.qT{E:Env}{w:World}{vw bx:List Bx}{G:AAz}(h:CD E w vw bx G):∀c∈G,¬E.T c:=let⟨_,_,h⟩:=h;fun c hc=>h.free c (by simp[hc])
theorem CD.take{E:Env}{w:World}{vw bx:List Bx}{G:AAz}(h:CD E w vw bx G){b:Nat}{B:Bx}(hb:bx[b]? =some B):
  ∃F,eW E w vw b B F∧CD E w vw (bx.set b .dead) (F++G):=by
 obtain⟨Fs,⟨hl,h1⟩,h2⟩:=h;have Dl:=(AG0.1 hb).1;have hF:Fs[b]? =some (Fs[b]'(by omega)):=AG7 _;refine⟨_,h1 b B _ hb hF,Fs.set b [],⟨by simpa using hl,fun k C F hk mb=> ?_⟩,h2.perm ?_⟩
 ·by_cases e:k=b
  ·subst e
   rw[AIp (by omega)]at hk mb;cases hk;cases mb;rfl
  ·rw[AHi (by omega)]at hk mb
   exact h1 k C F hk mb
 ·have:=AI2 G (PG hF)
  refine this.trans ?_
  rw[AHH,←AHH (List.flatten _)];refine(AJA (l₁:=Fs[b]'(by omega))).trans ?_
  rw[AHH,AHH];exact AI_ _ AJA
theorem CD.put{E:Env}{w:World}{vw bx:List Bx}{F G:AAz}(h:CD E w vw bx (F++G)){b:Nat}{B:Bx}(hb:bx[b]? =some .dead)(hB:eW E w vw b B F):
  CD E w vw (bx.set b B) G:=by
 obtain⟨Fs,⟨hl,h1⟩,h2⟩:=h;have Dl:=(AG0.1 hb).1;have hF:Fs[b]? =some (Fs[b]'(by omega)):=AG7 _;have e0:Fs[b]'(by omega)=[]:=h1 b _ _ hb hF;refine⟨Fs.set b F,⟨by simpa using hl,fun k C F' hk mb=> ?_⟩,h2.perm ?_⟩
 ·by_cases e:k=b
  ·subst e
   rw[AIp (by omega)]at hk mb;cases hk;cases mb;exact hB
  ·rw[AHi (by omega)]at hk mb
   exact h1 k C F' hk mb
 ·have p:(Fs.set b F).flatten.Perm (F++Fs.flatten):=by
   have p1:=PG (Fs:=Fs.set b F) (b:=b) (F:=F) (AIp (by omega));rw[AMF]at p1;have p2:=PG hF;rw[e0,AJF]at p2;exact p1.trans (AI_ _ p2.symm)
  refine List.Perm.symm ?_
  refine(AI2 G p).trans ?_
  rw[←AHH];exact AI2 _ AJA
theorem CD.push{E:Env}{w:World}{vw bx:List Bx}{F G:AAz}(h:CD E w vw bx (F++G)){B:Bx}(hB:eW E w vw bx.length B F):
  CD E w vw (bx++[B]) G:=by
 obtain⟨Fs,⟨hl,h1⟩,h2⟩:=h;refine⟨Fs++[F],⟨by simp[hl],fun k C F' hk mb=> ?_⟩,h2.perm (by simp)⟩;by_cases e:k<bx.length
 ·rw[AHR (by omega)]at hk mb
  exact h1 k C F' hk mb
 ·have hk':=(AG0.1 hk).1
  simp at hk';obtain rfl:k=bx.length:=by omega
  rw[AIw (by omega)]at hk mb;simp[hl]at hk mb;subst hk mb;exact hB
theorem CD.turn{E E':Env}{w w':World}{vw vw' bx:List Bx}{G:AAz}(h:CD E w vw bx G)(k:∀x v,VR E w vw x v→VR E' w' vw' x v)
  (hS:∀c,E.S c→E'.S c) (iN:∀b,b<bx.length→E'.Ff b=E.Ff b) (WB:∀b,b<bx.length→E'.Ft b=E.Ft b)
  (hw:∀c,(E.S c∨(¬E.T c∧c∉G))→c<w.heap.size→w'.heap[c]? =w.heap[c]?)
  (q7:∀F,Sep E w (F++G)→Sep E' w' (F++G)):CD E' w' vw' bx G:=by
 obtain⟨Fs,⟨hl,h1⟩,h2⟩:=h;refine⟨Fs,⟨hl,fun n B F hn hF=> ?_⟩,q7 _ h2⟩;have Dl:=(AG0.1 hn).1;have h3:=h1 n B F hn hF;have mV:∀c∈F,c∈Fs.flatten:=fun c hc=>AJB.2 ⟨F,AIv hF,hc⟩
 have hFw:∀c∈F,w'.heap[c]? =w.heap[c]?:=fun c hc=>hw c (.inr ⟨h2.free c (by simp[mV c hc]),fun hg=>by
  have:=(AIJ.1 h2.nodup).2.2 c (mV c hc) c hg;exact this rfl⟩) (h2.lt c (by simp[mV c hc]))
 have fP:∀c,E.S c→w'.heap[c]? =w.heap[c]?:=fun c hc=>hw c (.inl hc) (h2.XS c (h2.st c hc))
 cases B with
 |mem cs=>
  obtain⟨rfl,arr,ty,fr,ha,hu,hv⟩:=h3;refine⟨by rw[iN n Dl],arr,ty,fr,?_,hu,hv.imp k⟩;rw[iN n Dl,hFw _ (by simp),ha]
 |sl d r rows=>
  obtain⟨hd,ho⟩:=h3;refine⟨hd,?_⟩;rw[WB n Dl];exact Cr hS fP hFw ho
 |dead=>exact h3
end Go.Fw
end
section
namespace Go.Fw
theorem Fa{β:Ty→Type}{a b:Ty}{x:β a}{y:β b}(h:L0 a b x=some y):∃e:a=b,e▸x=y:=by
 unfold L0 at h;split at h
 ·rename_i e
  exact⟨e,by simpa using h⟩
 ·cases h
def DU(bk vw:List Bx):Prop:= ∀(b:Nat) (B:Bx),bk[b]? =some B→B= .dead∨vw[b]? =some B
theorem DU.refl(bx:List Bx):DU bx bx:=fun _ _ h=> .inr h
theorem Addr.add_eq(b o n:Nat):(⟨b,o,none⟩:Addr).add n=⟨b,o+n,none⟩:=by unfold Addr.add;split<;>simp_all
theorem lx{w:World}{B:Nat→Prop}{r:Ty}{a:Option Addr}{len cap:Nat}{ys:List r.D}(h:Rd w B (.sl r) [.slice a len cap] ys){off n:Nat}(hn:off+n≤ys.length):
  Rd w B (.sl r) [NW r.n off n a cap] ((ys.drop off).take n):=by
 simp only[Rd]at h⊢;obtain⟨a',cap',e,hc,h⟩:=h;simp only[AJD,Value.slice.injEq,AKa]at e;obtain⟨rfl,rfl,rfl⟩:=e;have hl:((ys.drop off).take n).length=n:=by simp;omega
 refine⟨_,_,by unfold NW;rw[hl],by rw[hl];omega,?_⟩;rw[hl];by_cases h0:n=0
 ·exact .inl h0
 ·rcases h with h|⟨b,o,rfl,hb,h⟩
  ·omega
  ·refine .inr ⟨b,o+off*r.n,?_,hb,fun i y hy=> ?_⟩
   ·rw[AHA (by omega)]
    simp[Addr.add_eq]
   ·have hi:=(AG0.1 hy).1
    rw[hl]at hi;rw[List.getElem?_take_of_lt hi,ALv]at hy;obtain⟨cs,e1,e2,e3⟩:=h (off+i) y hy;refine⟨cs,e1,?_,e3⟩;rw[AKk,←AL3]at e2;exact e2
def dA(E:Env)(Fs:List AAz)(c:Nat):Prop:=E.T c∨c∈Fs.flatten
section
variable{E:Env} {w:World} {vw bk:List Bx} {Fs:List AAz}
theorem JV.get(h:JV E w vw bk Fs){b:Nat}{B:Bx}(e:bk[b]? =some B):∃F,eW E w vw b B F∧ ∀c∈F,c∈Fs.flatten:=by
 have Dl:=(AG0.1 e).1;have hF:Fs[b]? =some (Fs[b]'(by rw[h.1];exact Dl)):=AG7 _;exact⟨_,h.2 b B _ e hF,fun c hc=>AJB.2 ⟨_,AIv hF,hc⟩⟩
theorem Vy(hs:DU bk vw)(h:JV E w vw bk Fs)(st:∀c,E.S c→E.T c){b d:Nat}{r:Ty}{rows:List r.D}(e:bk[b]? =some (.sl d r rows))
  {p:List bE} (hp:CI r rows p) {q:Ty} {ys:List q.D} (hg:Ee r rows p=some ⟨q,ys⟩) {v:Value} (hh:Gt w (E.Ft b) p=some v):
  Rd w (dA E Fs) (.sl q) [v] ys:=by
 obtain⟨F,⟨_,ho⟩,hF⟩:=h.get e;obtain⟨h',k,hr⟩:=cT (SV ho) hp hg;have:=k w (fun _ _=>rfl);rw[hh]at this;cases this;exact DV (fun c hc=>hc.elim (fun hc=> .inl (st c hc)) (fun hc=> .inr (hF c hc))) (fun _ _=>rfl) hr
theorem Sr(hs:DU bk vw){b d:Nat}{r:Ty}{rows:List r.D}(e:bk[b]? =some (.sl d r rows)):vw[b]? =some (.sl d r rows):=by
 rcases hs b _ e with h|h
 ·cases h
 ·exact h
theorem T1(hs:DU bk vw)(h:JV E w vw bk Fs)(st:∀c,E.S c→E.T c){x:AV}{v:Value}(hv:VR E w vw x v){q:Ty}{ys:List q.D}(e:Jc bk x=some ⟨q,ys⟩):
  Rd w (dA E Fs) (.sl q) [v] ys:=by
 cases x with
 |sl s r x=>
  simp only[Jc,AG9,AIx]at e;obtain⟨rfl,e⟩:=e;obtain rfl:=AJE e;simp only[VR]at hv;refine DV (fun c hc=> ?_) (fun _ _=>rfl) hv;cases s
  ·exact .inl (by simpa using hc)
  ·exact .inl (st c (by simpa using hc))
 |ref b p=>
  simp only[Jc]at e;split at e
  ·rename_i d r rows hb
   simp only[VR,Sr hs hb]at hv
   replace hv:=hv.2
   exact Vy hs h st hb hv.1 e hv.2.2
  ·cases e
 |win b p off n=>
  simp only[Jc]at e;split at e
  ·rename_i d r rows hb
   simp only[VR,Sr hs hb]at hv;obtain⟨_,hp,q',ec,a,len,cap,hg,hl,hh,rfl⟩:=hv;rw[hg]at e;simp only[Option.map_some,AG9,AIx]at e;obtain⟨rfl,e⟩:=e;obtain rfl:=AJE e;exact lx (Vy hs h st hb hp hg hh) hl
  ·cases e
 |_=>simp[Jc]at e
theorem Oy(hs:DU bk vw)(h:JV E w vw bk Fs)(st:∀c,E.S c→E.T c){t:Ty}{x:AV}{v:Value}(hv:VR E w vw x v){y:t.D}(e:JC bk t x=some y):
  Rd w (dA E Fs) t [v] y:=by
 have sl:∀(r:Ty) (x:AV) (v:Value) (y:List r.D),VR E w vw x v→((Jc bk x).bind fun q=>L0 (β:=fun r=>List r.D) q.1 r q.2)=some y→Rd w (dA E Fs) (.sl r) [v] y:=by
  intro r x v y hv e;rw[AHL]at e;obtain⟨⟨q,ys⟩,e1,e2⟩:=e;obtain⟨e3,e4⟩:=Fa e2;dsimp only at e3;subst e3;subst e4;exact T1 hs h st hv e1
 cases x with
 |v u z=>
  simp only[JC]at e;obtain⟨e1,e2⟩:=Fa e;subst e1;subst e2;exact DV (fun _ hc=>hc.elim) (fun _ hc=>hc.elim) hv.2
 |nil=>
  cases t with
  |sl r=>
   simp only[JC,AG9]at e;subst e;simp only[VR]at hv;subst hv;simp only[Rd];exact⟨none,0,rfl,by simp,.inl rfl⟩
  |_=>simp[JC]at e
 |_=>
  cases t with
  |sl r=>exact sl r _ _ y hv (by simpa only[JC]using e)
  |_=>simp[JC]at e
theorem X8(hs:DU bk vw)(h:JV E w vw bk Fs)(st:∀c,E.S c→E.T c):∀{r:Ty} {l:List AV} {vs:List Value} {x:r.D},YM E w vw l vs→Fe bk r l=some x→
  Rd w (dA E Fs) r vs x
 | .unit,[],[],x,_,_=>by simp only[Rd]
 | .cons c r,a::l,v::vs,x,hv,e=>by
  simp only[Fe,AHL,AHF]at e;obtain⟨y,e1,z,e2,rfl⟩:=e;simp only[Rd];exact⟨v,vs,rfl,Oy hs h st hv.1 e1,X8 hs h st hv.2 e2⟩
 | .unit,_::_,_,_,_,e=>by simp[Fe]at e
 | .unit,[],_::_,_,hv,_=>hv.elim
 | .cons _ _,[],_,_,_,e=>by simp[Fe]at e
 | .cons _ _,_::_,[],_,hv,_=>hv.elim
 | .int _,_,_,_,_,e=>by simp[Fe]at e
 | .bool,_,_,_,_,e=>by simp[Fe]at e
 | .str,_,_,_,_,e=>by simp[Fe]at e
 | .sl _,_,_,_,_,e=>by simp[Fe]at e
theorem YW{E1:Env}{lP:List Bx}(hs:DU bk vw)(h:JV E w vw bk Fs)(st:∀c,E.S c→E.T c)(hT:∀c,dA E Fs c→E1.T c):
  ∀{r:Ty} {l:List AV} {vs:List Value} {x:r.D},YM E w vw l vs→Fe bk r l=some x→YM E1 w lP (dk r x) vs
 | .unit,[],[],x,_,_=>trivial
 | .cons c r,a::l,v::vs,x,hv,e=>by
  simp only[Fe,AHL,AHF]at e;obtain⟨y,e1,z,e2,rfl⟩:=e;have Rv:=Oy hs h st hv.1 e1;have tl:YM E1 w lP _ _:=YW hs h st hT hv.2 e2;cases c with
  |sl q=>
   refine⟨?_,tl⟩;simp only[VR];exact DV hT (fun _ _=>rfl) (by simpa using Rv)
  |int k=>exact⟨⟨rfl,by simpa only[Rd]using Rv⟩,tl⟩
  |bool=>exact⟨⟨rfl,by simpa only[Rd]using Rv⟩,tl⟩
  |str=>exact⟨⟨rfl,by simpa only[Rd]using Rv⟩,tl⟩
  |unit=>
   exfalso
   simp only[Rd]at Rv;cases Rv
  |cons c' r' =>
   exfalso
   cases a with
   |v u z=>
    simp only[JC]at e1;obtain⟨e3,_⟩:=Fa e1;subst e3;exact absurd hv.1.1 (by simp[Ty.scalar])
   |_=>simp[JC]at e1
 | .unit,_::_,_,_,_,e=>by simp[Fe]at e
 | .unit,[],_::_,_,hv,_=>hv.elim
 | .cons _ _,[],_,_,_,e=>by simp[Fe]at e
 | .cons _ _,_::_,[],_,hv,_=>hv.elim
 | .int _,_,_,_,_,e=>by simp[Fe]at e
 | .bool,_,_,_,_,e=>by simp[Fe]at e
 | .str,_,_,_,_,e=>by simp[Fe]at e
 | .sl _,_,_,_,_,e=>by simp[Fe]at e
end
end Go.Fw
end
section
namespace Go.Fw
def Ext(m m':K4):Prop:=m'.length=m.length∧ ∀(i b:Nat),m[i]? =some (some b)→m'[i]? =some (some b)
theorem Ext.refl(m:K4):Ext m m:=⟨rfl,fun _ _ h=>h⟩
theorem Ext.trans{m m' m'':K4}(h:Ext m m')(k:Ext m' m''):Ext m m'':=⟨k.1.trans h.1,fun i b e=>k.2 i b (h.2 i b e)⟩
def fI(m:K4):Prop:= ∀(i j b:Nat),m[i]? =some (some b)→m[j]? =some (some b)→i=j
theorem V_{m m':K4}{i b:Nat}(e:m.put i b=some m'):Ext m m'∧m'[i]? =some (some b)∧(fI m→fI m'):=by
 unfold K4.put at e;split at e
 ·rename_i h
  split at e
  ·cases e
  ·rename_i hc
   cases e;have Dl:=(AG0.1 h).1;have w5:∀(k:Nat),m[k]?≠some (some b):=fun k hk=>hc (by
    rw[AMJ];exact AIv hk)
   refine⟨⟨by simp,fun k c hk=> ?_⟩,by simp[Dl],fun hi j k c hj hk=> ?_⟩
   ·by_cases e:k=i
    ·subst e;rw[h]at hk;cases hk
    ·rw[AHi (by omega)];exact hk
   ·by_cases e1:j=i<;>by_cases e2:k=i
    ·omega
    ·subst e1
     rw[AIp Dl]at hj;rw[AHi (by omega)]at hk;cases hj;exact absurd hk (w5 k)
    ·subst e2
     rw[AIp Dl]at hk;rw[AHi (by omega)]at hj;cases hk;exact absurd hj (w5 j)
    ·rw[AHi (by omega)]at hj hk
     exact hi j k c hj hk
 ·rename_i b' h
  split at e
  ·rename_i hb
   cases e;subst hb;exact⟨Ext.refl _,h,fun h=>h⟩
  ·cases e
 ·cases e
def Nc(m:K4):List Nat→List Nat→Prop
 |[],[]=>True
 |i::is,b::bs=>m[i]? =some (some b)∧Nc m is bs
 |_,_=>False
theorem Nc.ext{m m':K4}(h:Ext m m'):∀{is bs},Nc m is bs→Nc m' is bs
 |[],[],_=>trivial
 |_::_,_::_,k=>⟨h.2 _ _ k.1,Nc.ext h k.2⟩
theorem YP:∀{is bs:AAz} {m m':K4},Uz m is bs=some m'→Ext m m'∧Nc m' is bs∧(fI m→fI m')
 |[],[],m,m',e=>by simp only[Uz,AG9]at e;subst e;exact⟨Ext.refl _,trivial,fun h=>h⟩
 |i::is,b::bs,m,m',e=>by
  simp only[Uz,AHL]at e;obtain⟨m1,e1,e2⟩:=e;obtain⟨a1,a2,a3⟩:=V_ e1;obtain⟨b1,b2,b3⟩:=YP e2;exact⟨a1.trans b1,⟨b1.2 _ _ a2,b2⟩,fun h=>b3 (a3 h)⟩
 |[],_::_,_,_,e=>by simp[Uz]at e
 |_::_,[],_,_,e=>by simp[Uz]at e
def Mw(N:Nat)(m:K4):AP→AV→Prop
 | .ref i,x=> ∃b,(x= .ref b []∨(x= .nil∧b=N+i))∧m[i]? =some (some b)
 | .ptr i j,x=> ∃b,x= .FY b j∧m[i]? =some (some b)
 | .fn f G6,x=> ∃bs,x= .fn f bs∧Nc m G6 bs
 | .nil,x=>x= .nil
 | .aL i sz,x=> ∃b k j,x= .ref b [⟨k,sz,j⟩]∧m[i]? =some (some b)
 |_,_=>True
theorem Mw.ext{N:Nat}{m m':K4}(h:Ext m m'){p:AP}{x:AV}(k:Mw N m p x):Mw N m' p x:=by
 cases p with
 |ref i=>obtain⟨b,hx,k⟩:=k;exact⟨b,hx,h.2 _ _ k⟩
 |ptr i j=>obtain⟨b,rfl,k⟩:=k;exact⟨b,rfl,h.2 _ _ k⟩
 |fn f G6=>obtain⟨bs,rfl,k⟩:=k;exact⟨bs,rfl,k.ext h⟩
 |nil=>exact k
 |aL i sz=>obtain⟨b,q,j,rfl,k⟩:=k;exact⟨b,q,j,rfl,h.2 _ _ k⟩
 |_=>trivial
theorem WR{N:Nat}{m m':K4}{p:AP}{x:AV}(e:p.Jv N m x=some m'):Ext m m'∧Mw N m' p x∧(fI m→fI m'):=by
 cases p with
 |ref i=>
  cases x with
  |ref b q=>
   cases q with
   |nil=>
    obtain⟨a,b,c⟩:=V_ (by simpa only[AP.Jv]using e);exact⟨a,⟨_,.inl rfl,b⟩,c⟩
   |cons _ _=>simp[AP.Jv]at e
  |nil=>
   obtain⟨a,b,c⟩:=V_ (by simpa only[AP.Jv]using e);exact⟨a,⟨_,.inr ⟨rfl,rfl⟩,b⟩,c⟩
  |_=>simp[AP.Jv]at e
 |ptr i j=>
  cases x with
  |FY b j' =>
   simp only[AP.Jv]at e;split at e
   ·rename_i hj
    subst hj;obtain⟨a,b,c⟩:=V_ e;exact⟨a,⟨_,rfl,b⟩,c⟩
   ·cases e
  |_=>simp[AP.Jv]at e
 |fn f G6=>
  cases x with
  |fn g bs=>
   simp only[AP.Jv]at e;split at e
   ·rename_i hf
    subst hf;obtain⟨a,b,c⟩:=YP e;exact⟨a,⟨_,rfl,b⟩,c⟩
   ·cases e
  |_=>simp[AP.Jv]at e
 |nil=>
  cases x with
  |nil=>simp only[AP.Jv,AG9]at e;subst e;exact⟨Ext.refl _,rfl,fun h=>h⟩
  |_=>simp[AP.Jv]at e
 |aL i sz=>
  cases x with
  |ref b q=>
   cases q with
   |nil=>simp[AP.Jv]at e
   |cons s q=>
    cases q with
    |nil=>
     simp only[AP.Jv]at e;split at e
     ·rename_i hs
      obtain⟨a,b,c⟩:=V_ e;obtain⟨k,z,y⟩:=s;dsimp only at hs;subst hs;exact⟨a,⟨_,k,y,rfl,b⟩,c⟩
     ·cases e
    |cons _ _=>simp[AP.Jv]at e
  |_=>simp[AP.Jv]at e
 |_=>
  have:m=m':=by cases x<;>simpa[AP.Jv]using e
  subst this;exact⟨Ext.refl _,trivial,fun h=>h⟩
theorem Qh{N:Nat}:∀{l:List AP} {xs:List AV} {m m':K4},Rt.Jv N m l xs=some m'→Ext m m'∧Bi (Mw N m') l xs∧(fI m→fI m')
 |[],[],m,m',e=>by simp only[Rt.Jv,AG9]at e;subst e;exact⟨Ext.refl _,trivial,fun h=>h⟩
 |p::l,x::xs,m,m',e=>by
  simp only[Rt.Jv,AHL]at e;obtain⟨m1,e1,e2⟩:=e;obtain⟨a1,a2,a3⟩:=WR e1;obtain⟨b1,b2,b3⟩:=Qh e2;exact⟨a1.trans b1,⟨a2.ext b1,b2⟩,fun h=>b3 (a3 h)⟩
 |[],_::_,_,_,e=>by simp[Rt.Jv]at e
 |_::_,[],_,_,e=>by simp[Rt.Jv]at e
def Xi(N:Nat)(m:K4):AP ⊕ List AP→AV ⊕ List AV→Prop
 | .inl p,.inl x=>Mw N m p x
 | .inr p,.inr x=>Bi (Mw N m) p x
 |_,_=>False
theorem Xi.ext{N:Nat}{m m':K4}(h:Ext m m'):∀{p:AP ⊕ List AP} {x:AV ⊕ List AV},Xi N m p x→Xi N m' p x
 | .inl _,.inl _,k=>Mw.ext h k
 | .inr _,.inr _,k=>Bi.imp (fun _ _ k=>Mw.ext h k) k
theorem U3{N:Nat}:∀{l:List (AP ⊕ List AP)} {xs:List (AV ⊕ List AV)} {m m':K4},SM.Jv N m l xs=some m'→Ext m m'∧Bi (Xi N m') l xs∧(fI m→fI m')
 |[],[],m,m',e=>by simp only[SM.Jv,AG9]at e;subst e;exact⟨Ext.refl _,trivial,fun h=>h⟩
 | .inl p::l,.inl x::xs,m,m',e=>by
  simp only[SM.Jv,AHL]at e;obtain⟨m1,e1,e2⟩:=e;obtain⟨a1,a2,a3⟩:=WR e1;obtain⟨b1,b2,b3⟩:=U3 e2;exact⟨a1.trans b1,⟨Mw.ext b1 a2,b2⟩,fun h=>b3 (a3 h)⟩
 | .inr p::l,.inr x::xs,m,m',e=>by
  simp only[SM.Jv,AHL]at e;obtain⟨m1,e1,e2⟩:=e;obtain⟨a1,a2,a3⟩:=Qh e1;obtain⟨b1,b2,b3⟩:=U3 e2;exact⟨a1.trans b1,⟨Bi.imp (fun _ _ k=>Mw.ext b1 k) a2,b2⟩,fun h=>b3 (a3 h)⟩
 |[],_::_,_,_,e=>by simp[SM.Jv]at e
 | .inl _::_,[],_,_,e=>by simp[SM.Jv]at e
 | .inr _::_,[],_,_,e=>by simp[SM.Jv]at e
 | .inl _::_,.inr _::_,_,_,e=>by simp[SM.Jv]at e
 | .inr _::_,.inl _::_,_,_,e=>by simp[SM.Jv]at e
def Uc(N:Nat)(m:K4):XP→XV→Prop
 | .c p,.c x=>Mw N m p x
 | .agg l,.agg xs=>Bi (Mw N m) l xs
 | .row _,.agg _=>True
 | .Ju l,.Ju xs=>Bi (Xi N m) l xs
 |_,_=>False
theorem Uc.ext{N:Nat}{m m':K4}(h:Ext m m'):∀{p:XP} {x:XV},Uc N m p x→Uc N m' p x
 | .c _,.c _,k=>Mw.ext h k
 | .agg _,.agg _,k=>Bi.imp (fun _ _ k=>Mw.ext h k) k
 | .row _,.agg _,_=>trivial
 | .Ju _,.Ju _,k=>Bi.imp (fun _ _ k=>Xi.ext h k) k
theorem kj{N:Nat}{m m':K4}:∀{p:XP} {x:XV},p.Jv N m x=some m'→Ext m m'∧Uc N m' p x∧(fI m→fI m')
 | .c p,.c x,e=>WR (by simpa only[XP.Jv]using e)
 | .agg l,.agg xs,e=>Qh (by simpa only[XP.Jv]using e)
 | .row r,.agg xs,e=>by simp only[XP.Jv,AG9]at e;subst e;exact⟨Ext.refl _,trivial,fun h=>h⟩
 | .Ju l,.Ju xs,e=>U3 (by simpa only[XP.Jv]using e)
 | .c _,.agg _,e=>by simp[XP.Jv]at e
 | .c _,.Ju _,e=>by simp[XP.Jv]at e
 | .agg _,.c _,e=>by simp[XP.Jv]at e
 | .agg _,.Ju _,e=>by simp[XP.Jv]at e
 | .row _,.c _,e=>by simp[XP.Jv]at e
 | .row _,.Ju _,e=>by simp[XP.Jv]at e
 | .Ju _,.c _,e=>by simp[XP.Jv]at e
 | .Ju _,.agg _,e=>by simp[XP.Jv]at e
theorem Vu{N:Nat}{tm:List XV}:∀{l:List (Nat×XP)} {m m':K4},Ej.Jv N tm m l=some m'→
  Ext m m'∧(∀q∈l,∃x,tm[q.1]? =some x∧Uc N m' q.2 x)∧(fI m→fI m')
 |[],m,m',e=>by simp only[Ej.Jv,AG9]at e;subst e;exact⟨Ext.refl _,by simp,fun h=>h⟩
 |(i,p)::l,m,m',e=>by
  simp only[Ej.Jv]at e;split at e
  ·rename_i x hx
   simp only[AHL]at e;obtain⟨m1,e1,e2⟩:=e;obtain⟨a1,a2,a3⟩:=kj e1;obtain⟨b1,b2,b3⟩:=Vu e2;refine⟨a1.trans b1,?_,fun h=>b3 (a3 h)⟩;intro q hq;rcases AI5.1 hq with rfl|hq
   ·exact⟨x,hx,Uc.ext b1 a2⟩
   ·exact b2 q hq
  ·cases e
theorem Qa{N:Nat}{bx:List Bx}:∀{l:List BP} {i:Nat} {m m':K4},GZ.Jv N bx i m l=some m'→
  Ext m m'∧(∀(k:Nat) q,l[k]? =some (.mem q)→ ∃b cs,m'[i+k]? =some (some b)∧bx[b]? =some (.mem cs)∧Bi (Mw N m') q cs)∧
   (∀(k:Nat) d r,l[k]? =some (.sl d r)→ ∃b,m'[i+k]? =some (some b))∧(fI m→fI m')
 |[],i,m,m',e=>by simp only[GZ.Jv,AG9]at e;subst e;exact⟨Ext.refl _,by simp,by simp,fun h=>h⟩
 | .mem q::l,i,m,m',e=>by
  simp only[GZ.Jv]at e;split at e
  ·rename_i b hb
   split at e
   ·rename_i cs qN
    simp only[AHL]at e;obtain⟨m1,e1,e2⟩:=e;obtain⟨a1,a2,a3⟩:=Qh e1;obtain⟨b1,b2,b4,b3⟩:=Qa e2;refine⟨a1.trans b1,?_,?_,fun h=>b3 (a3 h)⟩
    ·intro k q' hk
     cases k with
     |zero=>cases hk;exact⟨b,cs,b1.2 _ _ (a1.2 _ _ hb),qN,Bi.imp (fun _ _ k=>Mw.ext b1 k) a2⟩
     |succ k=>
      have:=b2 k q' (by simpa using hk)
      rwa [show i+1+k=i+(k+1)by omega]at this
    ·intro k d r hk
     cases k with
     |zero=>cases hk
     |succ k=>
      have:=b4 k d r (by simpa using hk)
      rwa [show i+1+k=i+(k+1)by omega]at this
   ·cases e
  ·cases e
 | .sl d r::l,i,m,m',e=>by
  simp only[GZ.Jv]at e;split at e
  ·rename_i b hb
   obtain⟨b1,b2,b4,b3⟩:=Qa e;refine⟨b1,?_,?_,b3⟩
   ·intro k q' hk
    cases k with
    |zero=>cases hk
    |succ k=>
     have:=b2 k q' (by simpa using hk)
     rwa [show i+1+k=i+(k+1)by omega]at this
   ·intro k d r hk
    cases k with
    |zero=>exact⟨b,b1.2 _ _ hb⟩
    |succ k=>
     have:=b4 k d r (by simpa using hk)
     rwa [show i+1+k=i+(k+1)by omega]at this
  ·cases e
 | .gone::l,i,m,m',e=>by
  simp only[GZ.Jv]at e;obtain⟨b1,b2,b4,b3⟩:=Qa e;refine⟨b1,?_,?_,b3⟩
  ·intro k q' hk
   cases k with
   |zero=>cases hk
   |succ k=>
    have:=b2 k q' (by simpa using hk)
    rwa [show i+1+k=i+(k+1)by omega]at this
  ·intro k d r hk
   cases k with
   |zero=>cases hk
   |succ k=>
    have:=b4 k d r (by simpa using hk)
    rwa [show i+1+k=i+(k+1)by omega]at this
theorem NL{bx bk:List Bx}{G4:Nat→Nat}:∀{l:List BP} {m:K4} {x:GZ.V l},GZ.get bx bk m l=some x→(GZ.mk G4 l x).length=l.length∧
  ∀(k:Nat) p,l[k]? =some p→ ∃y:p.V,(GZ.mk G4 l x)[k]? =some (p.mk G4 y)∧
   match p,y with
   | .mem q,y=> ∃b cs,m[k]? =some (some b)∧bx[b]? =some (.mem cs)∧Rt.get bk q cs=some y
   | .sl d r,y=> ∃b d',m[k]? =some (some b)∧bx[b]? =some (.sl d' r y)∧1≤d∧d≤d'
   | .gone,_=>True
 |[],m,x,e=>⟨rfl,by simp⟩
 | .mem q::l,some b::m,x,e=>by
  simp only[GZ.get]at e;split at e
  ·rename_i cs qN
   simp only[AHL,AHF]at e;obtain⟨a,e1,c,e2,rfl⟩:=e;obtain⟨h1,h2⟩:=NL (G4:=G4) e2;refine⟨by simp[GZ.mk,h1],fun k p hk=> ?_⟩;cases k with
   |zero=>cases hk;exact⟨a,rfl,b,cs,rfl,qN,e1⟩
   |succ k=>
    obtain⟨y,k1,k2⟩:=h2 k p (by simpa using hk);exact⟨y,by simpa[GZ.mk]using k1,by simpa using k2⟩
  ·cases e
 | .sl d r::l,some b::m,x,e=>by
  simp only[GZ.get]at e;split at e
  ·rename_i d' q rows hb
   split at e
   ·rename_i hd
    simp only[AHL,AHF]at e;obtain⟨a,e1,c,e2,rfl⟩:=e;obtain⟨e3,e4⟩:=Fa e1;subst e3;subst e4;obtain⟨h1,h2⟩:=NL (G4:=G4) e2;refine⟨by simp[GZ.mk,h1],fun k p hk=> ?_⟩;cases k with
    |zero=>cases hk;exact⟨rows,rfl,b,d',rfl,hb,hd.1,hd.2⟩
    |succ k=>
     obtain⟨y,k1,k2⟩:=h2 k p (by simpa using hk);exact⟨y,by simpa[GZ.mk]using k1,by simpa using k2⟩
   ·cases e
  ·cases e
 | .gone::l,o::m,x,e=>by
  have e':(GZ.get bx bk m l).map (fun c=>((),c))=some x:=by cases o<;>simpa only[GZ.get]using e
  simp only[AHF]at e';obtain⟨c,e2,rfl⟩:=e';obtain⟨h1,h2⟩:=NL (G4:=G4) e2;refine⟨by simp[GZ.mk,h1],fun k p hk=> ?_⟩;cases k with
  |zero=>cases hk;exact⟨(),rfl,trivial⟩
  |succ k=>
   obtain⟨y,k1,k2⟩:=h2 k p (by simpa using hk);exact⟨y,by simpa[GZ.mk]using k1,by simpa using k2⟩
 | .mem q::l,none::m,x,e=>by simp[GZ.get]at e
 | .sl d r::l,none::m,x,e=>by simp[GZ.get]at e
 | .mem _::_,[],x,e=>by simp[GZ.get]at e
 | .sl _ _::_,[],x,e=>by simp[GZ.get]at e
 | .gone::_,[],x,e=>by simp[GZ.get]at e
theorem FG:∀{m:K4} {bx:List Bx},(B5 bx m).length=bx.length
 |[],_=>rfl
 |some b::m,bx=>by simp[B5,FG]
 |none::m,bx=>by simp[B5,FG]
theorem Ng:∀{m:K4} {bx vw:List Bx},DU bx vw→DU (B5 bx m) vw
 |[],_,_,h=>h
 |none::m,bx,vw,h=>by simp only[B5];exact Ng h
 |some b::m,bx,vw,h=>by
  simp only[B5];refine Ng fun k B hk=> ?_
  by_cases e:k=b
  ·subst e
   have Dl:=(AG0.1 hk).1;rw[AIp (by simpa using Dl)]at hk;cases hk;exact .inl rfl
  ·rw[AHi (by omega)]at hk
   exact h k B hk
theorem QF:∀{m:K4} {bx:List Bx} {b:Nat} {B:Bx},some b∈m→(B5 bx m)[b]? =some B→B= .dead
 |some c::m,bx,b,B,h,e=>by
  simp only[B5]at e;by_cases hm:some b∈m
  ·exact QF hm e
  ·have:c=b:=by
    rcases AI5.1 h with h|h
    ·cases h;rfl
    ·exact absurd h hm
   subst this;have:∀{m:K4} {bx:List Bx},bx[c]? =some .dead→some c∉m→(B5 bx m)[c]? =some .dead:=by
    intro m
    induction m with
    |nil=>intro bx h _;exact h
    |cons o m ih=>
     intro bx h hn;cases o with
     |none=>simp only[B5];exact ih h (fun hh=>hn (ALo _ hh))
     |some d=>
      simp only[B5];refine ih ?_ (fun hh=>hn (ALo _ hh))
      have:d≠c:=fun hh=>hn (by subst hh;simp)
      rw[AHi (by omega)];exact h
   have Dl:c<bx.length:=by
    have:=(AG0.1 e).1;simpa[FG]using this
   have:=this (m:=m) (bx:=bx.set c .dead) (by simp[Dl]) hm;rw[this]at e;cases e;rfl
 |none::m,bx,b,B,h,e=>by
  simp only[B5]at e;exact QF (by simpa using h) e
theorem cP{E:Env}{w:World}{vw:List Bx}:∀{m:K4} {bx:List Bx} {G:AAz},fI m→CD E w vw bx G→
  ∃Gs:List AAz,Gs.length=m.length∧(∀(k b:Nat) B F,m[k]? =some (some b)→bx[b]? =some B→Gs[k]? =some F→eW E w vw b B F)∧
   CD E w vw (B5 bx m) (Gs.flatten++G)
 |[],bx,G,_,h=>⟨[],rfl,by simp,h⟩
 |none::m,bx,G,hi,h=>by
  obtain⟨Gs,h1,h2,h3⟩:=cP (m:=m) (fun i j b DW hj=>by
   have:=hi (i+1) (j+1) b (by simpa using DW) (by simpa using hj);omega) h
  refine⟨[]::Gs,by simp[h1],fun k b B F hk hB hF=> ?_,by simpa[B5]using h3⟩;cases k with
  |zero=>simp at hk
  |succ k=>exact h2 k b B F (by simpa using hk) hB (by simpa using hF)
 |some b::m,bx,G,hi,h=>by
  have xZ:fI m:=fun i j b DW hj=>by
   have:=hi (i+1) (j+1) b (by simpa using DW) (by simpa using hj);omega
  cases e:bx[b]? with
  |none=>
   have Pd:bx.set b .dead=bx:=List.set_eq_of_length_le (by simpa using e);obtain⟨Gs,h1,h2,h3⟩:=cP (m:=m) xZ h;refine⟨[]::Gs,by simp[h1],fun k b' B F hk hB hF=> ?_,by simpa[B5,Pd]using h3⟩;cases k with
   |zero=>simp at hk;subst hk;rw[e]at hB;cases hB
   |succ k=>exact h2 k b' B F (by simpa using hk) hB (by simpa using hF)
  |some B0=>
   obtain⟨F0,k1,k2⟩:=h.take e;obtain⟨Gs,h1,h2,h3⟩:=cP (m:=m) xZ k2;refine⟨F0::Gs,by simp[h1],fun k b' B F hk hB hF=> ?_,?_⟩
   ·cases k with
    |zero=>
     simp at hk hF;subst hk hF;rw[e]at hB;cases hB;exact k1
    |succ k=>
     have YT:b'≠b:=fun hh=>by
      have:=hi 0 (k+1) b (by simp) (by subst hh;simpa using hk);omega
     exact h2 k b' B F (by simpa using hk) (by rw[AHi (by omega)];exact hB) (by simpa using hF)
   ·simp only[B5]
    refine h3.perm ?_
    rw[AJn,←AHH];exact AI2 _ AJA
end Go.Fw
end
section
namespace Go.Fw
theorem ck{R:Nat→List Nat→List Nat→List Nat→Prop}:∀(Gs:List AAz) (o:Nat),(∀(k:Nat) G,Gs[k]? =some G→ ∃F W,G.Perm (F++W)∧R (o+k) G F W)→
  ∃Fs Ws:List AAz,Fs.length=Gs.length∧Ws.length=Gs.length∧Gs.flatten.Perm (Fs.flatten++Ws.flatten)∧
   ∀(k:Nat) G F W,Gs[k]? =some G→Fs[k]? =some F→Ws[k]? =some W→R (o+k) G F W
 |[],o,_=>⟨[],[],rfl,rfl,by simp,by simp⟩
 |G::Gs,o,h=>by
  obtain⟨F,W,hp,hr⟩:=h 0 G rfl;obtain⟨Fs,Ws,h1,h2,h3,h4⟩:=ck Gs (o+1) (fun k G hk=>by
   have:=h (k+1) G (by simpa using hk)
   rwa [show o+1+k=o+(k+1)by omega])
  refine⟨F::Fs,W::Ws,by simp[h1],by simp[h2],?_,fun k G' F' W' hG hF hW=> ?_⟩
  ·simp only[AJn]
   refine(hp.append h3).trans ?_
   rw[AHH,AHH];refine AI_ _ ?_
   rw[←AHH,←AHH];exact AI2 _ AJA
  ·cases k with
   |zero=>simp at hG hF hW;subst hG hF hW;exact hr
   |succ k=>
    have:=h4 k G' F' W' (by simpa using hG) (by simpa using hF) (by simpa using hW)
    rwa [show o+1+k=o+(k+1)by omega]at this
def LB(E:Env)(w:World)(vw:List Bx)(G4:Nat→Nat):(l:List (Nat×XP))→Ej.V l→List Value→Prop
 |[],_,_=>True
 |(i,p)::l,x,vals=>(∃v,vals[i]? =some v∧XR E w vw (p.mk G4 x.1) v)∧LB E w vw G4 l x.2 vals
section
variable{E E1:Env} {w:World} {bx bk lP:List Bx} {Fk:List AAz} {m:K4}
theorem Nc.map{f:Nat→Nat}(h:∀(i b:Nat),m[i]? =some (some b)→E1.Ff i=E.Ff b):∀{is bs:AAz},Nc m is bs→
  (is.map fun b=>Value.pointer (some ⟨E1.Ff b,0,none⟩))=bs.map fun b=>Value.pointer (some ⟨E.Ff b,0,none⟩)
 |[],[],_=>rfl
 |i::is,b::bs,k=>by simp[h i b k.1,Nc.map (f:=f) h k.2]
theorem Nc.lt:∀{is bs:AAz},Nc m is bs→ ∀i∈is,i<m.length
 |[],[],_,_,h=>by simp at h
 |i::is,b::bs,k,j,h=>by
  rcases AI5.1 h with rfl|h
  ·exact(AG0.1 k.1).1
  ·exact Nc.lt k.2 j h
structure rA (N:Nat) (E:Env) (w:World) (bx bk:List Bx) (Fk:List AAz) (m:K4) (E1:Env) (lP:List Bx):Prop where
 within:DU bk bx
 boxes:JV E w bx bk Fk
 st:∀c,E.S c→E.T c
 T:∀c,dA E Fk c→E1.T c
 S:∀c,E.S c→E1.S c
 ids:∀(i b:Nat),m[i]? =some (some b)→E1.Ff i=E.Ff b∧E1.Ft i=E.Ft b
 len:m.length≤lP.length
 nil:∀(i:Nat) d r rows,lP[i]? =some (.sl d r rows)→E.Ft (N+i)= .slice none 0 0
 sl:∀(i:Nat) d r rows,i<m.length→lP[i]? =some (.sl d r rows)→ ∃b d',m[i]? =some (some b)∧bx[b]? =some (.sl d' r rows)
variable{N:Nat} (k:rA N E w bx bk Fk m E1 lP)
include k
theorem ll{p:AP}{x:AV}{v:Value}(hv:VR E w bx x v)(ha:Mw N m p x){y:p.V}(e:p.get bk x=some y):VR E1 w lP (p.mk id y) v:=by
 cases p with
 |v t=>
  simp only[AP.get]at e;split at e
  ·rename_i hs
   have hr:=Oy k.within k.boxes k.st hv e;refine⟨hs,?_⟩;cases t with
   |int _=>simpa only[Rd]using hr
   |bool=>simpa only[Rd]using hr
   |str=>simpa only[Rd]using hr
   |_=>simp[Ty.scalar]at hs
  ·cases e
 |sl s r=>
  cases s with
  |false=>
   simp only[AP.get]at e;have hr:=Oy k.within k.boxes k.st hv e;simp only[AP.mk,VR];exact DV k.T (fun _ _=>rfl) (by simpa using hr)
  |true=>
   simp only[AP.get]at e;split at e
   ·rename_i q z
    obtain⟨e1,e2⟩:=Fa e;subst e1;subst e2;simp only[AP.mk,VR]at hv⊢;exact DV k.S (fun _ _=>rfl) (by simpa using hv)
   ·cases e
    simp only[AP.mk,VR]at hv⊢;subst hv;simp only[Rd];exact⟨none,0,rfl,by simp,.inl rfl⟩
   ·cases e
 |nil=>
  obtain rfl:=ha;exact hv
 |ref i=>
  obtain⟨b,hx,hm⟩:=ha;have hi:=(AG0.1 hm).1;simp only[AP.mk,id,VR];rcases hx with rfl|⟨rfl,rfl⟩
  ·have hsl:=hv.1
   refine⟨hsl,?_⟩;cases e1:lP[i]? with
   |none=>simp at e1;have:=k.len;omega
   |some B=>
    cases B with
    |sl d r rows=>
     obtain⟨b',d',h1,h2⟩:=k.sl i d r rows hi e1;rw[hm]at h1;cases h1;simp only[VR,h2]at hv
     replace hv:=hv.2
     refine⟨by simp[CI],⟨_,rfl⟩,?_⟩;rw[(k.ids i b hm).2];exact hv.2.2
    |_=>trivial
  ·have VM:v= .slice none 0 0:=hv
   subst VM;refine⟨rfl,?_⟩;cases e1:lP[i]? with
   |none=>simp at e1;have:=k.len;omega
   |some B=>
    cases B with
    |sl d r rows=>
     refine⟨by simp[CI],⟨_,rfl⟩,?_⟩;rw[(k.ids i _ hm).2,k.nil i d r rows e1,B6]
    |_=>trivial
 |ptr i j=>
  obtain⟨b,rfl,hm⟩:=ha;have hi:=(AG0.1 hm).1;exact⟨AJW hi k.len,by rw[hv.2,id,(k.ids i b hm).1]⟩
 |gF r=>
  simp only[AP.get]at e;split at e
  ·rename_i s q z
   obtain⟨e1,e2⟩:=Fa e;subst e1;subst e2;simp only[AP.mk,VR]at hv⊢;obtain⟨bb,o,cs,h1,h2,h3,h4,h5⟩:=hv;have rG:∀c,(if s=true then E.S else E.T) c→E1.T c:=by
    intro c hc;cases s
    ·exact k.T c (.inl (by simpa using hc))
    ·exact k.T c (.inl (k.st c (by simpa using hc)))
   exact⟨bb,o,cs,h1,by simpa using rG bb h2,h3,h4,by simpa using DV rG (fun _ _=>rfl) h5⟩
  ·rename_i b
   split at e
   ·rename_i cs hb
    obtain⟨F,⟨hF,arr,ty,fr,ha,hu,RI⟩,Wn⟩:=k.boxes.get hb;have Rv:=X8 k.within k.boxes k.st RI e;simp only[AP.mk,VR];refine⟨E.Ff b,0,arr.toList,by simpa using hv.2,?_,aP Rv,?_,by simpa using DV k.T (fun _ _=>rfl) Rv⟩
    ·simp only[AIB,AJU]
     exact k.T _ (.inr (Wn _ (by rw[hF];simp)))
    ·intro j u hj
     simp only[AKi,World.cell?,ha,AK0,AIB,AJU];simpa using hj
   ·cases e
  ·rename_i b p i sz
   split at e
   ·rename_i d q rows hb
    simp only[AHL]at e;obtain⟨⟨q',ys⟩,e1,e2⟩:=e;split at e2
    case isFalse=>cases e2
    rename_i LJ;obtain⟨e3,e4⟩:=Fa e2;dsimp only at e3;subst e3;subst e4;simp only[VR,Sr k.within hb]at hv;obtain⟨_,hp,q1,ys1,bb,o,len,cap,hg,hi,hh,rfl⟩:=hv;rw[hg]at e1;simp only[AG9,AIx]at e1;obtain⟨e5,e6⟩:=e1;subst e5;obtain rfl:=AJE e6;have Rv:=Vy k.within k.boxes k.st hb hp hg hh;simp only[Rd]at Rv;obtain⟨a',cap',ee,_,Rv⟩:=Rv;simp only[AJD,Value.slice.injEq,AKa]at ee;obtain⟨rfl,rfl,rfl⟩:=ee;rcases Rv with Rv|⟨b1,o1,e7,hb1,Rv⟩
    ·omega
    ·cases e7
     obtain⟨cs,c1,c2,c3⟩:=Rv i _ (MS hi);simp only[AP.mk,VR];refine⟨bb,o+i*q1.n,cs,by rw[LJ],by simpa using k.T _ hb1,c1,c2,by simpa using DV k.T (fun _ _=>rfl) c3⟩
   ·cases e
  ·cases e
 |fn f G6=>
  obtain⟨bs,rfl,hc⟩:=ha;refine⟨fun i hi=>AJW (hc.lt i (by simpa[AP.mk]using hi)) k.len,?_⟩;rw[hv.2];simp only[AP.mk,List.map_id];rw[Nc.map (f:=id) (fun i b h=>(k.ids i b h).1) hc]
 |gf f rs=>
  simp only[AP.get]at e;split at e
  ·rename_i g rows
   split at e
   case isFalse=>cases e
   rename_i hfg;subst hfg;obtain⟨ps,VB,UI⟩:=hv;refine⟨ps,VB,?_⟩;clear ha VB
   induction rs generalizing rows ps with
   |nil=>
    cases rows with
    |nil=>
     cases ps with
     |nil=>trivial
     |cons _ _=>exact UI.elim
    |cons _ _=>simp[S9.c_]at e
   |cons r rs ih=>
    cases rows with
    |nil=>simp[S9.c_]at e
    |cons q rows=>
     cases ps with
     |nil=>exact UI.elim
     |cons p ps=>
      simp only[S9.c_,AHL,AHF]at e;obtain⟨x1,e1,x2,e2,rfl⟩:=e;obtain⟨q1,q2⟩:=q;obtain⟨e3,e4⟩:=Fa e1;dsimp only at e3;subst e3;subst e4;obtain⟨⟨bb,o,cs,h1,h2,h3,h4,h5⟩,UI⟩:=UI;exact⟨⟨bb,o,cs,h1,k.T bb (.inl h2),h3,h4,DV (fun b hb=>k.T b (.inl hb)) (fun _ _=>rfl) h5⟩,ih rows e2 ps UI⟩
  ·rename_i g bs
   split at e
   case isFalse=>cases e
   rename_i hfg;subst hfg;obtain⟨VB,UI⟩:=hv;refine⟨bs.map fun b=>Value.pointer (some ⟨E.Ff b,0,none⟩),UI,?_⟩;clear ha VB UI
   induction rs generalizing bs with
   |nil=>
    cases bs with
    |nil=>trivial
    |cons _ _=>simp[S9.eC]at e
   |cons r rs ih=>
    cases bs with
    |nil=>simp[S9.eC]at e
    |cons b bs=>
     simp only[S9.eC,AHL,AHF]at e;obtain⟨x1,e1,x2,e2,rfl⟩:=e;split at e1
     case h_2=>cases e1
     rename_i cs hb;obtain⟨F,⟨hF,arr,ty,fr,ha,hu,RI⟩,Wn⟩:=k.boxes.get hb;have Rv:=X8 k.within k.boxes k.st RI e1;refine⟨⟨E.Ff b,0,arr.toList,rfl,k.T _ (.inr (Wn _ (by rw[hF];simp))),aP Rv,?_,DV k.T (fun _ _=>rfl) Rv⟩,ih bs e2⟩;intro j u hj;simp only[AKi,World.cell?,ha,AK0,AIB,AJU];simpa using hj
  ·cases e
 |any=>trivial
 |aL i sz=>
  obtain⟨b,q,j,rfl,hm⟩:=ha;have hi:=(AG0.1 hm).1;simp only[AP.get,AG9]at e;subst e;simp only[AP.mk,id,VR];have hsl:=hv.1;refine⟨hsl,?_⟩;cases e1:lP[i]? with
  |none=>simp at e1;have:=k.len;omega
  |some B=>
   cases B with
   |sl d r rows=>
    obtain⟨b',d',h1,h2⟩:=k.sl i d r rows hi e1;rw[hm]at h1;cases h1;simp only[VR,h2]at hv
    replace hv:=hv.2
    refine⟨hv.1,hv.2.1,?_⟩;rw[(k.ids i b hm).2];exact hv.2.2
   |_=>trivial
theorem cO:∀{l:List AP} {xs:List AV} {vs:List Value},YM E w bx xs vs→Bi (Mw N m) l xs→ ∀{y:Rt.V l},Rt.get bk l xs=some y→YM E1 w lP (Rt.mk id l y) vs
 |[],[],[],_,_,_,_=>trivial
 |p::l,x::xs,v::vs,hv,ha,y,e=>by
  simp only[Rt.get,AHL,AHF]at e;obtain⟨a,e1,b,e2,rfl⟩:=e;exact⟨ll k hv.1 ha.1 e1,cO hv.2 ha.2 e2⟩
 |[],[],_::_,hv,_,_,_=>hv.elim
 |_::_,_::_,[],hv,_,_,_=>hv.elim
 |[],_::_,_,_,ha,_,_=>ha.elim
 |_::_,[],_,_,ha,_,_=>ha.elim
theorem jK:∀{l:List (AP ⊕ List AP)} {xs:List (AV ⊕ List AV)} {vs:List Value},Bi (TR E w bx) xs vs→Bi (Xi N m) l xs→ ∀{y:SM.V l},SM.get bk l xs=some y→
  Bi (TR E1 w lP) (SM.mk id l y) vs
 |[],[],[],_,_,_,_=>trivial
 | .inl p::l,.inl x::xs,v::vs,hv,ha,y,e=>by
  simp only[SM.get,AHL,AHF]at e;obtain⟨a,e1,b,e2,rfl⟩:=e;exact⟨ll k hv.1 ha.1 e1,jK hv.2 ha.2 e2⟩
 | .inr p::l,.inr x::xs,v::vs,hv,ha,y,e=>by
  simp only[SM.get,AHL,AHF]at e;obtain⟨a,e1,b,e2,rfl⟩:=e;obtain⟨⟨us,hu,hus⟩,h2⟩:=hv;exact⟨⟨us,hu,cO k hus ha.1 e1⟩,jK h2 ha.2 e2⟩
 | .inl _::_,.inr _::_,_,_,ha,_,_=>ha.1.elim
 | .inr _::_,.inl _::_,_,_,ha,_,_=>ha.1.elim
 |[],[],_::_,hv,_,_,_=>hv.elim
 |_::_,_::_,[],hv,_,_,_=>hv.elim
 |[],_::_,_,_,ha,_,_=>ha.elim
 |_::_,[],_,_,ha,_,_=>ha.elim
theorem ADC{p:XP}{x:XV}{v:Value}(hv:XR E w bx x v)(ha:Uc N m p x){y:p.V}(e:p.get bk x=some y):XR E1 w lP (p.mk id y) v:=by
 cases p with
 |c p=>cases x with
  |c x=>exact ll k hv ha (by simpa only[XP.get]using e)
  |_=>exact ha.elim
 |agg l=>cases x with
  |agg xs=>
   obtain⟨vs,rfl,RI⟩:=hv;exact⟨vs,rfl,cO k RI ha (by simpa only[XP.get]using e)⟩
  |_=>exact ha.elim
 |row r=>cases x with
  |agg xs=>
   obtain⟨vs,rfl,RI⟩:=hv;exact⟨vs,rfl,YW k.within k.boxes k.st k.T RI (by simpa only[XP.get]using e)⟩
  |_=>exact ha.elim
 |Ju l=>cases x with
  |Ju xs=>
   obtain⟨vs,rfl,RI⟩:=hv;exact⟨vs,rfl,jK k RI ha (by simpa only[XP.get]using e)⟩
  |_=>exact ha.elim
theorem hY{tm:List XV}{vals:List Value}(htm:Bi (XR E w bx) tm vals):∀{l:List (Nat×XP)},(∀q∈l,∃x,tm[q.1]? =some x∧Uc N m q.2 x)→ ∀{y:Ej.V l},Ej.get bk tm l=some y→
  LB E1 w lP id l y vals
 |[],_,_,_=>trivial
 |(i,p)::l,ha,y,e=>by
  obtain⟨x,hx,hax⟩:=ha (i,p) (by simp);simp only[Ej.get,hx,AHL,AHF]at e;obtain⟨a,e1,b,e2,rfl⟩:=e;obtain⟨v,hv,hr⟩:=htm.get hx;exact⟨⟨v,hv,ADC k hr hax e1⟩,hY htm (fun q hq=>ha q (by simp[hq])) e2⟩
end
structure iP (E:Env) (w:World) (bx:List Bx) (m:K4) (s:Bn) (x:s.V) (vals:List Value) (E1:Env):Prop where
 boxes:CD E1 w (GZ.mk id s.Ed x.2) (GZ.mk id s.Ed x.2) []
 Co:LB E1 w (GZ.mk id s.Ed x.2) id s.Co x.1 vals
 ids:∀(i b:Nat),m[i]? =some (some b)→E1.Ff i=E.Ff b∧E1.Ft i=E.Ft b
 inj:fI m
 len:m.length=s.Ed.length
 S:∀c,E.S c→E1.S c
 nc:∀c,E1.S c→E.S c∨ ¬E.T c
 T:∀c,E.T c→E1.T c
 rest:∃Fk,JV E w bx (B5 bx m) Fk∧Fk.flatten.Nodup∧(∀c∈Fk.flatten,¬E.T c∧ ¬E1.S c∧c<w.heap.size∧E1.T c)∧(∀c,E1.T c→E.T c∨E1.S c∨c∈Fk.flatten)
theorem aR{E:Env}{w:World}{bx:List Bx}{tm:List XV}{vals:List Value}(hB:CD E w bx bx [])(htm:Bi (XR E w bx) tm vals){s:Bn}{m0 m:K4}{x:s.V}
  {N:Nat} (jQ:∀(i:Nat) d r,s.Ed[i]? =some (.sl d r)→E.Ft (N+i)= .slice none 0 0) (hlen:m0.length=s.Ed.length) (xZ:fI m0) (e:s.fit N m0 tm bx=some (x,m)):Ext m0 m∧ ∃E1,iP E w bx m s x vals E1:=by
 simp only[Bn.fit,AHL,AHF]at e;obtain⟨m1,e1,m2,e2,a,e3,c,e4,e5⟩:=e;cases e5;obtain⟨a1,a2,a3⟩:=Vu e1;obtain⟨b1,b2,b4,b3⟩:=Qa e2;have hi:fI m:=b3 (a3 xZ);have qO:m.length=s.Ed.length:=by rw[b1.1,a1.1,hlen]
 refine⟨a1.trans b1,?_⟩;obtain⟨Gs,g1,g2,g3⟩:=cP hi hB;obtain⟨q1,q2⟩:=NL (G4:=id) e4;have st:=hB.st
 let R:Nat→List Nat→List Nat→List Nat→Prop:=fun k G F W=>
  match s.Ed[k]? with
  |some (.sl d r)=> ∀(b d':Nat) (rows:List r.D),m[k]? =some (some b)→bx[b]? =some (.sl d' r rows)→Ow w (fun c=>E.S c∨c∈W) d (.sl r) [E.Ft b] rows F
  |some (.mem q)=>F=G∧W=[]
  |_=>F=[]∧W=G
 have ADz:∀(k:Nat) G,Gs[k]? =some G→ ∃F W,G.Perm (F++W)∧R (0+k) G F W:=by
  intro k G hG;rw[AKi];have hk:k<s.Ed.length:=by
   have:=(AG0.1 hG).1;omega
  have hp:s.Ed[k]? =some s.Ed[k]:=AG7 hk;cases hb:s.Ed[k]with
  |mem q=>exact⟨G,[],by simp,by simp[R,hp,hb]⟩
  |gone=>exact⟨[],G,by simp,by simp[R,hp,hb]⟩
  |sl d r=>
   obtain⟨y,y1,b,d',y2,y3,y4,y5⟩:=q2 k _ (hp.trans (by rw[hb]));obtain⟨_,ho⟩:=g2 k b _ G y2 y3 hG;obtain⟨F,W,w1,w2⟩:=HB y5 ho;refine⟨F,W,w1,?_⟩;simp only[R,hp,hb];intro b' d'' rows h1 h2;rw[y2]at h1;cases h1;rw[y3]at h2;cases h2;exact w2
 obtain⟨Fs,Ws,f1,f2,f3,f4⟩:=ck Gs 0 ADz;obtain⟨Fk,k1,k2⟩:=g3;simp only[AIs]at k2;have cV:Sep E w (Fk.flatten++(Fs.flatten++Ws.flatten)):=k2.perm (AI_ _ f3)
 let E1:Env:={
   Ff:=fun i=>match m[i]? with|some (some b)=>E.Ff b|_=>0
   Ft:=fun i=>match m[i]? with|some (some b)=>E.Ft b|_=> .nilFunc
   S:=fun c=>E.S c∨c∈Ws.flatten
   T:=fun c=>E.T c∨c∈Ws.flatten∨c∈Fk.flatten }
 have lJ:∀(i b:Nat),m[i]? =some (some b)→E1.Ff i=E.Ff b∧E1.Ft i=E.Ft b:=fun i b h=>by simp[E1,h]
 have fe:rA N E w bx (B5 bx m) Fk m E1 (GZ.mk id s.Ed c):={
  within:=Ng (DU.refl bx)
  boxes:=k1
  st:=st
  T:=fun d hd=>hd.elim .inl fun h=> .inr (.inr h)
  S:=fun d hd=> .inl hd
  ids:=lJ
  len:=by rw[q1,qO];exact AJI _
  nil:=fun i d r rows e=>by
   have hk:i<s.Ed.length:=by
    have:=(AG0.1 e).1
    rwa [q1]at this
   obtain⟨y,y1,_⟩:=q2 i _ (AG7 hk);have hp:=AG7 hk;rw[e]at y1
   generalize s.Ed[i]=P at y y1 hp
   cases P with
   |mem q=>cases y1
   |gone=>cases y1
   |sl d0 r0=>exact jQ i d0 r0 hp
  sl:=fun i d r rows hi e=>by
   have hk:i<s.Ed.length:=by omega
   obtain⟨y,y1,y2⟩:=q2 i _ (AG7 hk);rw[e]at y1
   generalize s.Ed[i]=P at y y1 y2
   cases P with
   |mem q=>cases y1
   |gone=>cases y1
   |sl d0 r0=>
    simp only[BP.mk,AG9,Bx.sl.injEq]at y1;obtain⟨rfl,rfl,y1⟩:=y1;obtain rfl:=AJE y1;obtain⟨b,d',z1,z2,_⟩:=y2;exact⟨b,d',z1,z2⟩ }
 have nd:=cV.nodup;have q7:∀c∈Fs.flatten,¬E1.T c:=by
  intro d hd h;rcases h with h|h|h
  ·exact cV.free d (by simp[hd]) h
  ·have:=(AIJ.1 (AIJ.1 nd).2.1).2.2 d hd d h
   exact this rfl
  ·have:=(AIJ.1 nd).2.2 d h d (by simp[hd])
   exact this rfl
 have ADc:LB E1 w (GZ.mk id s.Ed c) id s.Co a vals:=hY fe htm (fun q hq=>let⟨x,h1,h2⟩:=a2 q hq;⟨x,h1,Uc.ext b1 h2⟩) e3;refine⟨E1,iP.mk ?_ ADc lJ hi qO (fun d hd=> .inl hd) ?_ (fun d hd=> .inl hd) ⟨Fk,k1,(AIJ.1 nd).1,fun d hd=>⟨cV.free d (by simp[hd]),?_,cV.lt d (by simp[hd]),.inr (.inr hd)⟩,?_⟩⟩
 ·refine⟨Fs,⟨by rw[f1,g1,q1,qO],fun k B F hk hF=> ?_⟩,?_⟩
  ·have hkl:k<s.Ed.length:=by
    have hk1:=(AG0.1 hk).1;rw[←q1];exact hk1
   have hp:s.Ed[k]? =some s.Ed[k]:=AG7 hkl;obtain⟨y,y1,y2⟩:=q2 k _ hp;rw[hk]at y1;cases y1;have hG:Gs[k]? =some (Gs[k]'(by omega)):=AG7 _;have hW:Ws[k]? =some (Ws[k]'(by omega)):=AG7 _;have hr:=f4 k _ F _ hG hF hW;rw[AKi]at hr;have AHM:∀d∈Ws[k]'(by omega),d∈Ws.flatten:=fun d hd=>AJB.2 ⟨_,AIv hW,hd⟩
   generalize AND:s.Ed[k]=P at y y2 hp
   have AGX:=fun q=>b2 k q
   simp only[R,hp]at hr;cases P with
   |mem q=>
    obtain⟨b,cs,z1,z2,z3⟩:=y2;obtain⟨rfl,hW0⟩:=hr;obtain⟨hFe,arr,ty,fr,h1,h2,h3⟩:=g2 k b _ _ z1 z2 hG;obtain⟨b',VN,t1,t2,t3⟩:=AGX q hp;rw[AKi,z1]at t1;cases t1;rw[z2]at t2;cases t2;refine⟨by rw[hFe,(lJ k b z1).1],arr,ty,fr,by rw[(lJ k b z1).1];exact h1,h2,cO fe h3 t3 z3⟩
   |sl d r=>
    obtain⟨b,d',z1,z2,z3,z4⟩:=y2;have:=hr b d' y z1 z2;refine⟨z3,?_⟩;rw[(lJ k b z1).2];exact Cr (fun d hd=>hd.elim .inl fun h=> .inr (AHM d h)) (fun _ _=>rfl) (fun _ _=>rfl) this
   |gone=>exact hr.1
  ·simp only[AIs]
   refine⟨(AIJ.1 (AIJ.1 nd).2.1).1,q7,fun d hd=>cV.lt d (by simp[hd]),fun d hd=>hd.elim (fun h=> .inl (st d h)) (fun h=> .inr (.inl h)),fun d hd=> ?_⟩;rcases hd with hd|hd|hd
   ·exact cV.XS d hd
   ·exact cV.lt d (by simp[hd])
   ·exact cV.lt d (by simp[hd])
 ·intro d hd
  exact hd.elim .inl fun h=> .inr (cV.free d (by simp[h]))
 ·intro h
  rcases h with h|h
  ·exact cV.free d (by simp[hd]) (st d h)
  ·have:=(AIJ.1 nd).2.2 d hd d (by simp[h])
   exact this rfl
 ·intro d hd
  rcases hd with hd|hd|hd
  ·exact .inl hd
  ·exact .inr (.inl (.inr hd))
  ·exact .inr (.inr hd)
end Go.Fw
end
section
namespace Go.Fw
def zv:Ty→Value
 | .int k=> .int k 0
 | .bool=> .bool false
 | .str=> .string ⟨#[]⟩
 |_=> .slice none 0 0
def ED:Ty→List Value
 | .cons c r=>zv c::ED r
 | .unit=>[]
 |t=>[zv t]
def Ty.cell:Ty→Bool
 | .unit| .cons _ _=>false
 |_=>true
def Ty.iW:Ty→Bool
 | .cons c r=>c.cell&&r.iW
 |_=>true
def eqZ:Value→Value→Bool
 | .int k n,.int k' n' =>decide (k=k')&&decide (n=n')
 | .bool a,.bool b=>decide (a=b)
 | .string a,.string b=>decide (a.data.toList=[])&&decide (b.data.toList=[])
 | .slice none a b,.slice none c d=>decide (a=c)&&decide (b=d)
 |_,_=>false
theorem ABv{a b:Value}(h:eqZ a b=true):a=b:=by
 unfold eqZ at h;split at h
 ·simp at h;rw[h.1,h.2]
 ·simp at h;rw[h]
 ·rename_i a b
  simp at h;obtain⟨h1,h2⟩:=h;cases a;cases b;simp at h1 h2;subst h1 h2;rfl
 ·simp at h;rw[h.1,h.2]
 ·cases h
def oI:List Value→List Value→Bool
 |[],[]=>true
 |a::l,b::m=>eqZ a b&&oI l m
 |_,_=>false
theorem nV:∀{l m:List Value},oI l m=true→l=m
 |[],[],_=>rfl
 |a::l,b::m,h=>by
  simp only[oI,AHN]at h;rw[ABv h.1,nV h.2]
 |[],_::_,h=>by simp[oI]at h
 |_::_,[],h=>by simp[oI]at h
def Xe(P:Program)(t:Nat):TD→Prop
 | .int k=>P.underlying t=some (.int k)
 | .bool=>P.underlying t=some .bool
 | .str=>P.underlying t=some .string
 | .sl e=>P.underlying t=some (.slice e)
 | .ptr e=>P.underlying t=some (.pointer e)
 | .st fs=> ∃fields,P.underlying t=some (.struct fields)∧fields.toList.map (fun f=>(f.offset,f.type))=fs∧(∀f∈fields.toList,f.name≠ "_" ∧ ∃i,P.info? f.type=some i∧i.size≠0)∧
  P.stoodInHeld t=false∧P.eqGuardType P.depth t=false
 | .other=> ∃d,P.underlying t=some d∧d.isRow=false
structure AHz (P:Program) (T:G8) (t:Nat) (ti:TI):Prop where
 info:∃i,P.info? t=some i∧i.size=ti.size∧i.bytes=ti.bytes∧(∀r,ti.row=some r→r.iW=true∧ ∃z,i.zero=some z∧z.cells.toList=ED r)
 qz:Xe P t ti.desc
def Dd(P:Program)(T:G8):Prop:= ∀t ti,T.get t=some ti→AHz P T t ti
def iQ(P:Program)(T:G8)(t:Nat)(ti:TI):Bool:=
 (match P.info? t with
  |some i=>decide (i.size=ti.size)&&decide (i.bytes=ti.bytes)&&(match ti.row with
   |some r=>r.iW&&(match i.zero with
    |some z=>oI z.cells.toList (ED r)
    |none=>false)
   |none=>true)
  |none=>false)&&
 (match ti.desc,P.underlying t with
  | .int k,some (.int k')=>decide (k=k')
  | .bool,some .bool=>true
  | .str,some .string=>true
  | .sl e,some (.slice e')=>decide (e=e')
  | .ptr e,some (.pointer e')=>decide (e=e')
  | .st fs,some (.struct fields)=>decide (fields.toList.map (fun f=>(f.offset,f.type))=fs)&&
    fields.toList.all (fun f=>decide (f.name≠ "_")&&(match P.info? f.type with|some i=>decide (i.size≠0)|none=>false))&&
    !P.stoodInHeld t&& !P.eqGuardType P.depth t
  | .other,some d=> !d.isRow
  |_,_=>false)
theorem jD{P:Program}{T:G8}{t:Nat}{ti:TI}(h:iQ P T t ti=true):AHz P T t ti:=by
 unfold iQ at h;rw[AHN]at h;obtain⟨h1,h2⟩:=h;constructor
 ·split at h1
  ·rename_i i hi
   simp only[AHN,AHl]at h1;refine⟨i,hi,h1.1.1,h1.1.2,fun r hr=> ?_⟩;obtain⟨_,h3⟩:=h1;rw[hr]at h3;dsimp only at h3;rw[AHN]at h3;obtain⟨hg,h3⟩:=h3;refine⟨hg,?_⟩;split at h3
   ·rename_i z hz
    exact⟨z,hz,nV h3⟩
   ·cases h3
  ·cases h1
 ·split at h2
  ·rename_i hd hu;simp only[hd,Xe];simp at h2;rw[hu,h2]
  ·rename_i hd hu;simp only[hd,Xe];exact hu
  ·rename_i hd hu;simp only[hd,Xe];exact hu
  ·rename_i hd hu;simp only[hd,Xe];simp at h2;rw[hu,h2]
  ·rename_i hd hu;simp only[hd,Xe];simp at h2;rw[hu,h2]
  ·rename_i fs fields hd hu
   simp only[hd,Xe];simp only[AHN,AHl,AJq,AK2]at h2;refine⟨fields,hu,h2.1.1.1,fun f hf=> ?_,h2.1.2,h2.2⟩;have:=h2.1.1.2 f hf;refine⟨this.1,?_⟩;have h4:=this.2;split at h4
   ·rename_i i hi
    exact⟨i,hi,by simpa using h4⟩
   ·cases h4
  ·rename_i d hd hu;simp only[hd,Xe]
   exact⟨d,hu,by simpa using h2⟩
  ·cases h2
def r_(P:Program)(T:G8):Bool:=T.all fun q=>iQ P T q.1 q.2
theorem G8.get_mem:∀{T:G8} {t:Nat} {ti:TI},T.get t=some ti→(t,ti)∈T
 |(u,i)::l,t,ti,h=>by
  simp only[G8.get]at h;split at h
  ·rename_i e;cases h;subst e;simp
  ·exact ALo _ (G8.get_mem h)
 |[],_,_,h=>by simp[G8.get]at h
theorem dY{P:Program}{T:G8}(h:r_ P T=true):Dd P T:=fun t ti e=>
 jD (by simpa using AJq.1 h (t,ti) (G8.get_mem e))
section
variable{P:Program} {T:G8} (hT:Dd P T)
include hT
theorem Dd.size{t:Nat}{ti:TI}(e:T.get t=some ti):(P.info? t).map (·.size)=some ti.size:=by
 obtain⟨i,h1,h2,_⟩:=(hT t ti e).info;simp[h1,h2]
theorem Dd.sizeOf{t:Nat}{ti:TI}(e:T.get t=some ti)(w:World):(Go.sizeOf t).run P w= .ok ti.size w:=by
 obtain⟨i,h1,h2,_⟩:=(hT t ti e).info;simp[Go.sizeOf,typeInfo,h1,h2]
omit hT in
theorem Az{t:Nat}{d:TypeDesc}(h:P.underlying t=some d)(w:World):(Go.underlying t).run P w= .ok d w:=by
 simp[Go.underlying,h]
theorem Dd.isAgg{t:Nat}{ti:TI}(e:T.get t=some ti)(w:World):(Go.isAgg t).run P w= .ok ti.desc.agg w:=by
 have hu:=(hT t ti e).qz;unfold Go.isAgg;cases hd:ti.desc<;>rw[hd]at hu<;>simp only[Xe]at hu
 case st fs=>
  obtain⟨fields,hu,_⟩:=hu;simp[Az hu,TD.agg]
 case other=>
  obtain⟨d,hu,hd⟩:=hu;rw[Sem.run_bind,Az hu];cases d<;>simp_all[TypeDesc.isRow,TD.agg]
 all_goals simp[Az hu,TD.agg]
end
end Go.Fw
end
section
namespace Go.Fw
def H6{Y:Type}(P:Program)(o:Oper)(E:Env)(σ:St)(a:Act)(w:World)(k:K Y)(y:Y):Prop:=
 ∃v w' E' x σ',((execOp a.eval o).run P w= .ok (.value v) w'∨((execOp a.eval o).run P w= .ok .skip w'∧v=undef))∧Rel E' σ' a w'∧XR E' w' σ'.bx x v∧Mb (F7 (fun _=>none) σ o.op) E σ.bx w E' σ'.bx w'∧
  σ'.tm.length=σ.tm.length∧k x σ' =some y
section
variable{Y:Type} {P:Program} {T:G8} {o:Oper} {E:Env} {σ:St} {a:Act} {w:World} {k:K Y} {y:Y}
theorem H6.same(h:Rel E σ a w){v:Value}{x:XV}(hr:(execOp a.eval o).run P w= .ok (.value v) w)(hx:XR E w σ.bx x v)(hk:k x σ=some y):H6 P o E σ a w k y:=
 ⟨v,w,E,x,σ,.inl hr,h,hx,Mb.refl _ E σ.bx w,rfl,hk⟩
theorem Ug{vw:List Bx}{κ:IntKind}{n:Int}{v:Value}(h:VR E w vw (.v (.int κ) n) v):v= .int κ n:=by
 have:=h.2;simpa[Rd]using this
theorem M1{vw:List Bx}{b:Bool}{v:Value}(h:VR E w vw (.v .bool b) v):v= .bool b:=by
 have:=h.2;simpa[Rd]using this
theorem Rn{vw:List Bx}{s:AA_}{v:Value}(h:VR E w vw (.v .str s) v):v= .string ⟨s.toArray⟩:=by
 have:=h.2;simpa[Rd]using this
theorem VR.int{vw:List Bx}(κ:IntKind)(n:Int):VR E w vw (.v (.int κ) n) (.int κ n):=⟨rfl,by simp[Rd]⟩
theorem VR.bool{vw:List Bx}(b:Bool):VR E w vw (.v .bool b) (.bool b):=⟨rfl,by simp[Rd]⟩
theorem VR.str{vw:List Bx}(s:AA_):VR E w vw (.v .str s) (.string ⟨s.toArray⟩):=⟨rfl,by simp[Rd]⟩
theorem QB(s:AA_):ByteArray.toList ⟨s.toArray⟩=s:=by
 have:∀(n i:Nat) (r:AA_),n=s.length-i→ByteArray.toList.loop ⟨s.toArray⟩ i r=r.reverse++s.drop i:=by
  intro n
  induction n with
  |zero=>
   intro i r hn;unfold ByteArray.toList.loop;rw[AHA (by simp[ByteArray.size];omega),List.drop_of_length_le (by omega)];simp
  |succ n ih=>
   intro i r hn;unfold ByteArray.toList.loop;have hi:i<s.length:=by omega
   rw[AG5 (by simpa[ByteArray.size]using hi),ih (i+1) _ (by omega)];have:(⟨s.toArray⟩:ByteArray).get! i=s[i]:=by
    simp[ByteArray.get!,hi]
   rw[this,List.drop_eq_getElem_cons hi];simp
 unfold ByteArray.toList;rw[this _ 0 [] rfl];simp
theorem il(a b:AA_):(⟨a.toArray⟩:ByteArray)++⟨b.toArray⟩=⟨(a++b).toArray⟩:=by
 apply ByteArray.ext;simp
theorem kz(op:BinOp)(t:TypeId)(x y:Operand)(u v:Value)(hu:∀l,u≠ .agg l)(hn:u≠ .nilIface)(w:World):(eqGuard op t x y u v).run P w= .ok () w:=by
 unfold eqGuard;by_cases h:(op matches .eql| .neq)=true
 ·cases u<;>first
   |(exfalso;exact hn rfl)
   |(exfalso;exact hu _ rfl)
   |(cases v<;>simp[h])
 ·simp[h]
  exact fun hh=>absurd hh h
theorem lB{op:BinOp}{κ:IntKind}{m n:Int}{k:AV→Option Y}{y:Y}(e:XG op κ m n k=some y)(t:TypeId)(w:World):
  ∃z v,k z=some y∧(binOp op t (.int κ m) (.int κ n)).run P w= .ok v w∧ ∀E vw,VR E w vw z v:=by
 cases op with
 |add=>exact⟨_,.int κ (κ.wrap (m+n)),e,by simp[binOp,Op.intArith],fun _ _=>VR.int _ _⟩
 |sub=>exact⟨_,.int κ (κ.wrap (m-n)),e,by simp[binOp,Op.intArith],fun _ _=>VR.int _ _⟩
 |mul=>exact⟨_,.int κ (κ.wrap (m*n)),e,by simp[binOp,Op.intArith],fun _ _=>VR.int _ _⟩
 |and=>exact⟨_,.int κ (κ.wrap (BitVec.ofInt κ.bits m &&& BitVec.ofInt κ.bits n).toNat),e,by simp[binOp,Op.intBits],fun _ _=>VR.int _ _⟩
 |or=>exact⟨_,.int κ (κ.wrap (BitVec.ofInt κ.bits m ||| BitVec.ofInt κ.bits n).toNat),e,by simp[binOp,Op.intBits],fun _ _=>VR.int _ _⟩
 |xor=>exact⟨_,.int κ (κ.wrap (BitVec.ofInt κ.bits m ^^^ BitVec.ofInt κ.bits n).toNat),e,by simp[binOp,Op.intBits],fun _ _=>VR.int _ _⟩
 |andNot=>exact⟨_,.int κ (κ.wrap (BitVec.ofInt κ.bits m &&& ~~~BitVec.ofInt κ.bits n).toNat),e,by simp[binOp,Op.intBits],fun _ _=>VR.int _ _⟩
 |eql=>exact⟨_,.bool (m==n),e,by simp[binOp,Op.intCmp],fun _ _=>VR.bool _⟩
 |neq=>exact⟨_,.bool (m !=n),e,by simp[binOp,Op.intCmp],fun _ _=>VR.bool _⟩
 |lss=>exact⟨_,.bool (decide (m<n)),e,by simp[binOp,Op.intCmp],fun _ _=>VR.bool _⟩
 |leq=>exact⟨_,.bool (decide (m≤n)),e,by simp[binOp,Op.intCmp],fun _ _=>VR.bool _⟩
 |gtr=>exact⟨_,.bool (decide (m>n)),e,by simp[binOp,Op.intCmp],fun _ _=>VR.bool _⟩
 |geq=>exact⟨_,.bool (decide (m≥n)),e,by simp[binOp,Op.intCmp],fun _ _=>VR.bool _⟩
 |quo=>
  simp only[XG]at e;split at e
  ·cases e
  ·rename_i hz
   exact⟨_,.int κ (κ.wrap (m.tdiv n)),e,by simp[binOp,Op.intDiv,hz],fun _ _=>VR.int _ _⟩
 |rem=>
  simp only[XG]at e;split at e
  ·cases e
  ·rename_i hz
   exact⟨_,.int κ (m.tmod n),e,by simp[binOp,Op.intDiv,hz],fun _ _=>VR.int _ _⟩
 |_=>simp[XG]at e
theorem XB{op:BinOp}{κ κ':IntKind}{m n:Int}{k:AV→Option Y}{y:Y}(e:SJ op κ m n k=some y)(t:TypeId)(w:World):
  ∃z v,k z=some y∧(binOp op t (.int κ m) (.int κ' n)).run P w= .ok v w∧ ∀E vw,VR E w vw z v:=by
 unfold SJ at e;split at e
 ·cases e
 ·rename_i hn
  cases op with
  |shl=>exact⟨_,.int κ (κ.wrap (m*2^min n.toNat κ.bits)),e,by simp[binOp,Op.shift,hn],fun _ _=>VR.int _ _⟩
  |shr=>exact⟨_,.int κ (m.fdiv (2^min n.toNat κ.bits)),e,by simp[binOp,Op.shift,hn],fun _ _=>VR.int _ _⟩
  |_=>simp at e
theorem jv{op:BinOp}{s u:AA_}{k:AV→Option Y}{y:Y}(e:Yk op s u k=some y)(t:TypeId)(w:World):
  ∃z v,k z=some y∧(binOp op t (.string ⟨s.toArray⟩) (.string ⟨u.toArray⟩)).run P w= .ok v w∧ ∀E vw,VR E w vw z v:=by
 have h1:=QB s;have h2:=QB u;cases op with
 |eql=>exact⟨_,.bool (s==u),e,by simp[binOp,Op.stringOp,h1,h2],fun _ _=>VR.bool _⟩
 |neq=>exact⟨_,.bool (!(s==u)),e,by simp[binOp,Op.stringOp,h1,h2],fun _ _=>VR.bool _⟩
 |lss=>exact⟨_,.bool (Op.bytesLess s u),e,by simp[binOp,Op.stringOp,h1,h2],fun _ _=>VR.bool _⟩
 |leq=>exact⟨_,.bool (Op.bytesLess s u||s==u),e,by simp[binOp,Op.stringOp,h1,h2],fun _ _=>VR.bool _⟩
 |gtr=>exact⟨_,.bool (!(Op.bytesLess s u||s==u)),e,by simp[binOp,Op.stringOp,h1,h2],fun _ _=>VR.bool _⟩
 |geq=>exact⟨_,.bool (!Op.bytesLess s u),e,by simp[binOp,Op.stringOp,h1,h2],fun _ _=>VR.bool _⟩
 |add=>
  simp only[Yk]at e;split at e
  ·rename_i hl
   refine⟨_,.string ⟨(s++u).toArray⟩,e,?_,fun _ _=>VR.str _⟩;have hs:(⟨s.toArray⟩:ByteArray).size=s.length:=by simp[ByteArray.size]
   have hu:(⟨u.toArray⟩:ByteArray).size=u.length:=by simp[ByteArray.size]
   have Wt: ¬(((⟨s.toArray⟩:ByteArray).size+(⟨u.toArray⟩:ByteArray).size:Nat):Int)>IntKind.i64.max:=by
    rw[hs,hu];simp only[DH,IntKind.max,IntKind.signed,IntKind.bits]at hl⊢;simp;omega
   simp only[binOp,Op.stringOp,Sem.run_ite,AHA Wt,il];rfl
  ·cases e
 |_=>simp[Yk]at e
theorem ig{d:TD}{x z:AV}{p:Bool}(e:eN d x z=some p){E:Env}{w:World}{vw:List Bx}{v u:Value}(hx:VR E w vw x v)(hz:VR E w vw z u){t:TypeId}
  (hu:Xe P t d) (n:Nat):(Op.equalIn (n+1) t v u).run P w= .ok p w∧d.agg=false:=by
 unfold eN at e;split at e
 ·rename_i κ j a k b
  split at e
  ·rename_i hj
   subst hj;cases e;rw[Ug hx,Ug hz];exact⟨run_equalIn_int (P:=P) w n t j κ a b hu,rfl⟩
  ·cases e
 ·cases e
  rw[M1 hx,M1 hz];exact⟨run_equalIn_bool' (P:=P) w n t _ _ hu,rfl⟩
 ·cases e
  rename_i a b;rw[Rn hx,Rn hz];have q:=run_equalIn_string (P:=P) w n t ⟨a.toArray⟩ ⟨b.toArray⟩ hu;rw[QB,QB]at q;exact⟨q,rfl⟩
 ·cases e
theorem XN{T:G8}(hT:Dd P T){E:Env}{w:World}{vw:List Bx}{xs ys:Array Value}:∀{fields:List Field} {i:Nat} {l m:List AV} {vs us:List Value} {r:Bool},
  (∀f∈fields,f.name≠ "_")→YM E w vw l vs→YM E w vw m us→Hy T i (fields.map fun f=>(f.offset,f.type)) l m=some r→
  (∀(j:Nat) v,vs[j]? =some v→xs[i+j]? =some v)→(∀(j:Nat) v,us[j]? =some v→ys[i+j]? =some v)→(Op.eqFields 9999 xs ys fields).run P w= .ok r w
 |[],i,[],[],_,_,r,_,_,_,e,_,_=>by
  simp only[AMS,Hy,AG9]at e;subst e;simp[Op.eqFields]
 |f::fs,i,x::l,z::m,v::vs,u::us,r,hn,hx,hz,e,h1,h2=>by
  simp only[AL4,Hy]at e;split at e
  case isFalse=>cases e
  rename_i ho;have hv:=h1 0 v rfl;have hu:=h2 0 u rfl;simp only[ALW]at hv hu;have AIU:=hn f (by simp);split at e
  case h_2=>cases e
  rename_i ti Mv;split at e
  case h_2=>cases e
  rename_i p hp;simp only[AHF]at e;obtain⟨r',e',rfl⟩:=e;have AKK:=XN hT (fields:=fs) (i:=i+1) (l:=l) (m:=m) (vs:=vs) (us:=us) (r:=r') (fun f hf=>hn f (by simp[hf])) hx.2 hz.2 e'
   (fun j v' hj=>by have:=h1 (j+1) v' (by simpa using hj);rwa [show i+(j+1)=i+1+j by omega]at this)
   (fun j v' hj=>by have:=h2 (j+1) v' (by simpa using hj);rwa [show i+(j+1)=i+1+j by omega]at this)
  have Yy:=(hT f.type ti Mv).qz;obtain⟨q,na⟩:=ig (P:=P) hp hx.1 hz.1 (t:=f.type) Yy 9998;have Yl:=Dd.isAgg hT Mv w;rw[na]at Yl;have p1:(part f.type xs f.offset).run P w= .ok v w:=by simp[part,Yl,ho,hv]
  have p2:(part f.type ys f.offset).run P w= .ok u w:=by simp[part,Yl,ho,hu]
  simp only[Op.eqFields,AIU,ne_eq,not_false_eq_true,AKn,Sem.run_bind,p1,p2,Result.andThen_ok,q,AKK,Sem.run_ite,Sem.run_pure];cases p<;>simp
 |[],_,_::_,_,_,_,_,_,_,_,e,_,_=>by simp[Hy]at e
 |[],_,[],_::_,_,_,_,_,_,_,e,_,_=>by simp[Hy]at e
 |_::_,_,[],_,_,_,_,_,_,_,e,_,_=>by simp[Hy]at e
 |_::_,_,x::_,[],_,_,_,_,_,_,e,_,_=>by simp[Hy]at e
 |_::_,_,_::_,_::_,[],_,_,_,hx,_,_,_,_=>hx.elim
 |_::_,_,_::_,_::_,_::_,[],_,_,_,hz,_,_,_=>hz.elim
theorem dq(op:BinOp)(t:TypeId)(p q:Bool)(hu:P.underlying t=some .bool)(w:World):(op= .eql→(binOp op t (.bool p) (.bool q)).run P w= .ok (.bool (p==q)) w)∧
  (op= .neq→(binOp op t (.bool p) (.bool q)).run P w= .ok (.bool (!(p==q))) w):=by
 have h:=run_equalIn_bool' (P:=P) w 9999 t p q hu;constructor
 ·rintro rfl
  simp only[binOp,Op.equal,Op.maxDepth,Sem.run_bind,h,Result.andThen_ok,Sem.run_pure]
 ·rintro rfl
  simp only[binOp,Op.equal,Op.maxDepth,Sem.run_bind,h,Result.andThen_ok,Sem.run_pure]
theorem Xr{T:G8}(hT:Dd P T){t:Nat}{op:BinOp}{x z:XV}{k:AV→Option Y}{y:Y}(e:jj T t op x z k=some y){E:Env}{w:World}{vw:List Bx}{v u:Value}
  (hx:XR E w vw x v) (hz:XR E w vw z u) (ox oz:Operand):
  ∃r val,k r=some y∧(do eqGuard op t ox oz v u;binOp op t v u:Sem Value).run P w= .ok val w∧VR E w vw r val:=by
 have guard:∀(v u:Value),(∀l,v≠ .agg l)→v≠ .nilIface→ ∀val,(binOp op t v u).run P w= .ok val w→(do eqGuard op t ox oz v u;binOp op t v u:Sem Value).run P w= .ok val w:=by
  intro v u h1 h2 val h;rw[Sem.run_bind,kz op t ox oz v u h1 h2 w,Result.andThen_ok,h]
 unfold jj at e;split at e
 ·rename_i j m j' n
  have hv:=Ug (E:=E) (vw:=vw) hx;have hu:=Ug (E:=E) (vw:=vw) hz;subst hv hu;have done:∀(q:∃r val,k r=some y∧(binOp op t (.int j m) (.int j' n)).run P w= .ok val w∧ ∀E vw,VR E w vw r val),∃r val,k r=some y∧(do eqGuard op t ox oz (.int j m) (.int j' n);binOp op t (.int j m) (.int j' n):Sem Value).run P w= .ok val w∧VR E w vw r val:=by
   rintro⟨r,val,h1,h2,h3⟩
   exact⟨r,val,h1,guard _ _ (by simp) (by simp) _ h2,h3 _ _⟩
  split at e
  ·exact done (XB e t w)
  ·exact done (XB e t w)
  ·split at e
   ·rename_i hj
    subst hj;exact done (lB e t w)
   ·cases e
 ·rename_i s s'
  have hv:=Rn (E:=E) (vw:=vw) hx;have hu:=Rn (E:=E) (vw:=vw) hz;subst hv hu;obtain⟨r,val,h1,h2,h3⟩:=jv (P:=P) e t w;exact⟨r,val,h1,guard _ _ (by simp) (by simp) _ h2,h3 _ _⟩
 ·rename_i p q
  have hv:=M1 (E:=E) (vw:=vw) hx;have hu:=M1 (E:=E) (vw:=vw) hz;subst hv hu;split at e
  ·rename_i ti Mv
   have Yy:=(hT t ti Mv).qz;split at e
   ·rename_i hd
    rw[hd]at Yy;split at e
    ·exact⟨_,_,e,guard _ _ (by simp) (by simp) _ ((dq _ t p q Yy w).1 rfl),VR.bool _⟩
    ·exact⟨_,_,e,guard _ _ (by simp) (by simp) _ ((dq _ t p q Yy w).2 rfl),VR.bool _⟩
    ·cases e
   ·cases e
  ·cases e
 ·rename_i l m
  obtain⟨vs,rfl,RI⟩:=hx;obtain⟨us,rfl,hus⟩:=hz;have key:∀r,((T.fields t).bind fun fs=>Hy T 0 fs l m)=some r→(Op.equalIn 10000 t (.agg vs) (.agg us)).run P w= .ok r w∧P.eqGuardType P.depth t=false:=by
   intro r hr;simp only[AHL]at hr;obtain⟨fs,hf,hr⟩:=hr;unfold G8.fields at hf;split at hf
   ·rename_i fs' hd
    cases hf;simp only[AHF]at hd;obtain⟨ti,Mv,hd⟩:=hd;have Yy:=(hT t ti Mv).qz;rw[hd]at Yy;obtain⟨fields,hu,hfs,hnm,mA,hg⟩:=Yy;have hfo:P.fieldsOf t=fields:=by simp[Program.fieldsOf,hu]
    have q:=run_equalIn_agg (P:=P) w 9999 t vs us (by rw[hfo];exact hu) mA;rw[hfo]at q;refine⟨q.trans ?_,hg⟩;subst hfs;exact XN hT (fun f hf=>(hnm f hf).1) RI hus hr (fun j v hj=>by simpa using hj) (fun j v hj=>by simpa using hj)
   ·cases hf
  split at e
  ·rename_i r hr
   obtain⟨q,hg⟩:=key r hr;refine⟨_,_,e,?_,VR.bool r⟩;rw[Sem.run_bind,run_eqGuard_agg (P:=P) w _ t ox oz vs us hg,Result.andThen_ok,run_eql_struct (P:=P) w t vs us,q];rfl
  ·rename_i r hr
   obtain⟨q,hg⟩:=key r hr;refine⟨_,_,e,?_,VR.bool (!r)⟩;rw[Sem.run_bind,run_eqGuard_agg (P:=P) w _ t ox oz vs us hg,Result.andThen_ok,run_neq_struct (P:=P) w t vs us,q];rfl
  ·cases e
 ·cases e
end
end Go.Fw
end
section
namespace Go.Fw
section
variable{Y:Type} {P:Program} {T:G8} (hT:Dd P T) {E:Env} {w:World} {vw:List Bx}
include hT
theorem vH{t:Nat}{s b:Nat}{fs:List ABR}{rw:Option Ty}(e:T.get t=some ⟨s,b,.st fs,rw⟩):∃fields,P.underlying t=some (.struct fields)∧fields.toList.map (fun f=>(f.offset,f.type))=fs∧
  ∀f∈fields.toList,∃i,P.info? f.type=some i∧i.size≠0:=by
 obtain⟨fields,h1,h2,h3,_⟩:=(hT t _ e).qz;exact⟨fields,h1,h2,fun f hf=>(h3 f hf).2⟩
omit hT in
theorem dW{a:Addr}{f:Field}(h:∃i,P.info? f.type=some i∧i.size≠0):(fieldPlace a f).run P w= .ok (a.add f.offset) w:=by
 obtain⟨i,h1,h2⟩:=h;simp[fieldPlace,Go.sizeOf,typeInfo,h1,h2]
theorem PL{t:Nat}{s b:Nat}{fs:List ABR}{rw:Option Ty}(e:T.get t=some ⟨s,b,.st fs,rw⟩){f o u:Nat}(hf:fs[f]? =some (o,u)){a:Addr}:
  (Instr.fieldAt t (.pointer (some a)) f).run P w= .ok (.pointer (some (a.add o))) w:=by
 obtain⟨fields,h1,h2,h3⟩:=vH hT e;subst h2;simp only[AJG,AHF]at hf;obtain⟨fld,hfl,he⟩:=hf;have hm:=AIv hfl;have hfa:fields[f]? =some fld:=by simpa using hfl
 simp only[AJH]at he;simp[Instr.fieldAt,Az h1,hfa,Instr.sureAddr,dW (h3 fld hm),he.1]
theorem Ye{t:Nat}{x z:XV}{f:Nat}(e:iv T t x f=some z){v:Value}(hx:XR E w vw x v):∃u,(Instr.fieldAt t v f).run P w= .ok u w∧XR E w vw z u:=by
 unfold iv at e;split at e
 case h_2=>cases e
 rename_i s b fs _ Mv;split at e
 case h_2=>cases e
 rename_i o u hf;split at e
 ·rename_i b' j
  cases e;obtain⟨h1,rfl⟩:=hx;exact⟨_,PL hT Mv hf,h1,by rw[Addr.add_eq]⟩
 ·rename_i b' p i sz j
  cases e;obtain⟨h0,h1⟩:=hx;cases v with
  |pointer oa=>
   cases oa with
   |none=>simp[VJ]at h0
   |some a=>
    obtain⟨ab,ao,sp⟩:=a;cases sp with
    |some _=>simp[VJ]at h0
    |none=>
     refine⟨_,PL hT Mv hf,by rw[Addr.add_eq];rfl,?_⟩;revert h1;split
     ·rintro⟨hp,q,ys,bb,o',len,cap,g1,g2,g3,g4⟩
      refine⟨hp,q,ys,bb,o',len,cap,g1,g2,g3,?_⟩;simp only[Value.pointer.injEq,AG9,Addr.mk.injEq,AKa]at g4;rw[Addr.add_eq,g4.1,g4.2,AL3]
     ·exact fun h=>h
     ·exact fun h=>h
  |_=>simp[VJ]at h0
 ·rename_i s r y j
  cases e;obtain⟨bb,o',cs,rfl,h2,h3,h4,h5⟩:=hx;refine⟨_,PL hT Mv hf,bb,o',cs,?_,h2,h3,h4,h5⟩;rw[Addr.add_eq,AL3]
 ·cases e
theorem a_{t:Nat}{x z:XV}{f:Nat}(e:sW T t x f=some z){v:Value}(hx:XR E w vw x v):∃u,(Instr.field t v f).run P w= .ok u w∧XR E w vw z u:=by
 unfold sW at e;split at e
 case h_2=>cases e
 rename_i s b fs _ l Mv;obtain⟨vs,rfl,RI⟩:=hx;split at e
 case h_2=>cases e
 rename_i o u hf;split at e
 case h_2=>cases e
 rename_i ti htu;obtain⟨fields,h1,h2,h3⟩:=vH hT Mv;subst h2;simp only[AJG,AHF]at hf;obtain⟨fld,hfl,he⟩:=hf;have hfa:fields[f]? =some fld:=by simpa using hfl
 simp only[AJH]at he;obtain⟨rfl,rfl⟩:=he;have Yl:=Dd.isAgg hT htu w;have LJ:=Dd.sizeOf hT htu w;split at e
 ·rename_i ha
  cases e;rw[ha]at Yl;refine⟨.agg (vs.extract fld.offset (fld.offset+ti.size)),?_,_,rfl,?_⟩
  ·simp[Instr.field,Az h1,hfa,asAgg,part,Yl,LJ]
  ·have:(vs.extract fld.offset (fld.offset+ti.size)).toList=(vs.toList.drop fld.offset).take ti.size:=by
    rw[Array.toList_extract,List.extract_eq_take_drop];simp
   rw[this];exact Bi.take _ (Bi.drop _ RI)
 ·rename_i ha
  simp only[AI9]at ha;rw[ha]at Yl;simp only[AHF]at e;obtain⟨y,hy,rfl⟩:=e;obtain⟨v,hv,hr⟩:=Bi.get RI hy;refine⟨v,?_,hr⟩;have:vs[fld.offset]? =some v:=by simpa using hv
  simp[Instr.field,Az h1,hfa,asAgg,part,Yl,this]
theorem J2{t:Nat}{r:Ty}(h:T.NM t r=true):∃e ti,P.underlying t=some (.slice e)∧T.get e=some ti∧ti.size=r.n∧ti.bytes≤512∧ti.row=some r:=by
 unfold G8.NM at h;split at h
 ·rename_i ti Mv
  simp only[AHN,AHl]at h;unfold G8.elem at Mv;split at Mv
  ·rename_i e hd
   simp only[AHF]at hd;obtain⟨tj,h1,h2⟩:=hd;have:=(hT t tj h1).qz;rw[h2]at this;exact⟨e,ti,this,Mv,h.1.1,h.1.2,h.2⟩
  ·cases Mv
 ·cases h
theorem Q8{t:Nat}(h:T.isStr t=true):P.underlying t=some .string:=by
 unfold G8.isStr at h;split at h
 ·rename_i hd
  simp only[AHF]at hd;obtain⟨tj,h1,h2⟩:=hd;have:=(hT t tj h1).qz;rw[h2]at this;exact this
 ·cases h
theorem ZT{t:Nat}(h:T.w6 t=true):∃e,P.underlying t=some (.slice e):=by
 unfold G8.w6 at h;split at h
 ·rename_i e hd
  simp only[AHF]at hd;obtain⟨tj,h1,h2⟩:=hd;have:=(hT t tj h1).qz;rw[h2]at this;exact⟨e,this⟩
 ·cases h
omit hT in
theorem GA{x:XV}{n:Int}(e:Vh x=some n){v:Value}(hx:XR E w vw x v):∃κ,v= .int κ n:=by
 unfold Vh at e;split at e
 ·cases e;exact⟨_,Ug (E:=E) (w:=w) (vw:=vw) hx⟩
 ·cases e
theorem WS{t:Nat}{r:Ty}(h:T.NM t r=true){κ:IntKind}{i:Int}{a:Addr}{len cap:Nat}(h0:0≤i)(h1:i<(len:Int)):
  (Instr.indexAt t (.slice (some a) len cap) (.int κ i)).run P w= .ok (.pointer (some (a.add (i.toNat*r.n)))) w:=by
 obtain⟨e,ti,hu,Mv,hs,_⟩:=J2 hT h;have LJ:=Dd.sizeOf hT Mv w;simp[Instr.indexAt,asIntOf,Az hu,h0,h1,LJ,hs]
omit hT in
theorem lZ{bx:List Bx}{Fs:List AAz}(hB:JV E w bx bx Fs)(st:∀c,E.S c→E.T c){x:AV}{v:Value}(hv:VR E w bx x v){q:Ty}{ys:List q.D}(e:Jc bx x=some ⟨q,ys⟩):
  ∃a cap,v= .slice a ys.length cap∧ys.length≤cap∧(ys.length=0∨ ∃b o,a=some ⟨b,o,none⟩):=by
 have:=T1 (DU.refl bx) hB st hv e;simp only[Rd]at this;obtain⟨a,cap,h1,h2,h3⟩:=this;simp only[AJD,AKa]at h1;exact⟨a,cap,h1,h2,h3.imp id fun⟨b,o,h,_⟩=>⟨b,o,h⟩⟩
theorem Yr{σ:St}{Fs:List AAz}(hB:JV E w σ.bx σ.bx Fs)(st:∀c,E.S c→E.T c){t:Nat}{x i:XV}{k:K Y}{y:Y}(e:Z8 σ T t x i k=some y){v u:Value}
  (hx:XR E w σ.bx x v) (hi:XR E w σ.bx i u):∃z val,k z σ=some y∧(Instr.indexAt t v u).run P w= .ok val w∧XR E w σ.bx z val:=by
 unfold Z8 at e;split at e
 ·rename_i s r rows n hn
  obtain⟨κ,rfl⟩:=GA hn hi;split at e
  case isFalse=>cases e
  rename_i UK;split at e
  case isFalse=>cases e
  rename_i hb;obtain⟨h0,h1⟩:=hb;simp only[XR,VR,Rd]at hx;obtain⟨a,cap,hv,hl,hx⟩:=hx;simp only[AJD,AKa]at hv;subst hv;rcases hx with hx|⟨b,o,rfl,hb,hx⟩
  ·omega
  ·have Dl:n.toNat<rows.length:=by omega
   obtain⟨cs,c1,c2,c3⟩:=hx n.toNat _ (MS Dl);refine⟨_,_,e,WS hT UK h0 h1,b,o+n.toNat*r.n,cs,?_,by simpa using hb,c1,c2,by simpa using c3⟩;rw[Addr.add_eq];rfl
 ·rename_i b p n hn
  obtain⟨κ,rfl⟩:=GA hn hi;split at e
  case h_2=>cases e
  rename_i q hq;split at e
  case isFalse=>cases e
  rename_i UK;split at e
  case isFalse=>cases e
  rename_i hb;obtain⟨h0,h1⟩:=hb
  change VR E w σ.bx (.ref b p) v at hx
  obtain⟨a,cap,rfl,hl,ha⟩:=lZ hB st hx hq;rcases ha with ha|⟨b',o,rfl⟩
  ·omega
  ·refine⟨_,_,e,WS hT UK h0 h1,by rw[Addr.add_eq];rfl,?_⟩
   simp only[Jc]at hq;obtain⟨_,hx⟩:=hx;revert hx;split
   ·rename_i d r rows YO
    rw[YO]at hq;dsimp only at hq
    rintro⟨hp,hg,hh⟩
    exact⟨hp,q.1,q.2,b',o,_,cap,hq,by omega,hh,by rw[Addr.add_eq];rfl⟩
   ·rename_i YO
    intro _
    trivial
   ·exact fun h=>h
 ·rename_i b p off n' n hn
  obtain⟨κ,rfl⟩:=GA hn hi;split at e
  case h_2=>cases e
  rename_i q hq;split at e
  case isFalse=>cases e
  rename_i UK;split at e
  case isFalse=>cases e
  rename_i hb;obtain⟨h0,h1⟩:=hb;simp only[Jc]at hq;obtain⟨h00,hx⟩:=hx;revert hx;split
  ·rename_i d r rows YO
   rw[YO]at hq;dsimp only at hq
   rintro⟨hp,q',ys,a,len,cap,g1,g2,g3,rfl⟩
   have Rv:=Vy (DU.refl _) hB st YO hp g1 g3;simp only[Rd]at Rv;obtain⟨a',cap',ee,hle,Rv⟩:=Rv;simp only[AJD,Value.slice.injEq,AKa]at ee;obtain⟨rfl,rfl,rfl⟩:=ee;rcases Rv with Rv|⟨b',o,rfl,_,_⟩
   ·omega
   ·unfold NW
    rw[AHA (by omega)];have hq1:q.1=q':=by
     rw[g1]at hq;simp only[Option.map_some,AG9]at hq;rw[←hq]
    refine⟨_,_,e,WS hT UK h0 h1,by simp only[Option.map];rw[Addr.add_eq,Addr.add_eq];rfl,?_⟩;rw[YO];refine⟨hp,q',ys,b',o,_,cap,g1,by omega,g3,?_⟩;dsimp only;rw[Addr.add_eq,Addr.add_eq,hq1,AL3,←AKk];rfl
  ·rename_i B YO nT
   exfalso
   cases B with
   |sl d r rows=>exact YO d r rows rfl
   |_=>rw[nT]at hq;simp at hq
  ·exact fun h=>h.elim
 ·cases e
theorem VV{σ:St}{t:Nat}{x i:XV}{k:K Y}{y:Y}(e:Qs T t σ x i k=some y){v u:Value}(hx:XR E w vw x v)(hi:XR E w vw i u):
  ∃z val,k z σ=some y∧(Instr.index t v u).run P w= .ok val w∧XR E w vw z val:=by
 unfold Qs at e;split at e
 ·rename_i s n hn
  obtain⟨κ,rfl⟩:=GA hn hi;have hv:=Rn (E:=E) (w:=w) (vw:=vw) hx;subst hv;split at e
  case isFalse=>cases e
  rename_i mA;split at e
  case isFalse=>cases e
  rename_i hb;obtain⟨h0,h1⟩:=hb;refine⟨_,.int .u8 ((s.getD n.toNat 0).toNat:Int),e,?_,VR.int (E:=E) (vw:=vw) _ _⟩;have Dl:n.toNat<s.length:=by omega
  have:(⟨s.toArray⟩:ByteArray)[n.toNat]? =some s[n.toNat]:=by
   rw[getElem?_pos _ _ (by simpa[ByteArray.size]using Dl)];rfl
  simp[Instr.index,asIntOf,Az (Q8 hT mA),h0,this,Dl]
 ·cases e
omit hT in
theorem WE{x z:XV}{i:Nat}(e:fE x i=some z){v:Value}(hx:XR E w vw x v):∃u,(Instr.extract v i).run P w= .ok u w∧XR E w vw z u:=by
 unfold fE at e;split at e
 case h_2=>cases e
 rename_i l;obtain⟨vs,rfl,RI⟩:=hx;split at e
 ·rename_i x hx
  cases e;obtain⟨v,hv,hr⟩:=RI.get hx;have:vs[i]? =some v:=by simpa using hv
  exact⟨v,by simp[Instr.extract,this],hr⟩
 ·rename_i q hx
  cases e;obtain⟨v,hv,ws,rfl,hr⟩:=RI.get hx;have:vs[i]? =some (.agg ws):=by simpa using hv
  exact⟨.agg ws,by simp[Instr.extract,this],ws,rfl,hr⟩
 ·cases e
omit hT in
theorem bB{bx:List Bx}{Fs:List AAz}(hB:JV E w bx bx Fs)(st:∀c,E.S c→E.T c){x:AV}{n:Nat}(e:lenOf bx x=some n){v:Value}(hx:VR E w bx x v):
  ∃a cap,v= .slice a n cap:=by
 cases x with
 |nil=>simp only[lenOf,AG9]at e;subst e;exact⟨_,_,hx⟩
 |sl s r x=>
  simp only[lenOf,AG9]at e;subst e;simp only[VR,Rd]at hx;obtain⟨a,cap,h,_⟩:=hx;simp only[AJD,AKa]at h;exact⟨a,cap,h⟩
 |ref b p=>
  simp only[lenOf]at e;split at e
  ·rename_i d r rows hb
   simp only[AHF]at e;obtain⟨q,hq,rfl⟩:=e;obtain⟨a,cap,h,_⟩:=lZ hB st hx (q:=q.1) (ys:=q.2) (by simp only[Jc,hb];exact hq);exact⟨a,cap,h⟩
  ·cases e
 |win b p off m=>
  simp only[lenOf]at e;split at e
  ·rename_i d r rows hb
   cases e;simp only[VR,hb]at hx;obtain⟨_,_,q,ys,a,len,cap,_,_,_,rfl⟩:=hx;exact⟨_,_,rfl⟩
  ·cases e
 |_=>simp[lenOf]at e
omit hT in
theorem OL{big:Bool}{x z:XV}{k:AV→Option Y}{y:Y}(e:ia big x z k=some y){v u:Value}(hx:XR E w vw x v)(hz:XR E w vw z u)(t s:Array TypeId)(tt:TypeId):
  ∃r val,k r=some y∧(if big then Builtin.max_ t tt #[v,u]else Builtin.min_ t tt #[v,u]).run P w= .ok val w∧VR E w vw r val:=by
 unfold ia at e;split at e
 ·rename_i j m j' n
  have hv:=Ug (E:=E) (w:=w) (vw:=vw) hx;have hu:=Ug (E:=E) (w:=w) (vw:=vw) hz;subst hv hu;split at e
  case isFalse=>cases e
  rename_i hj;subst hj;cases big with
  |true=>exact⟨_,.int j (if n>m then n else m),e,by simp[Builtin.max_,Builtin.max2],VR.int _ _⟩
  |false=>exact⟨_,.int j (if n<m then n else m),e,by simp[Builtin.min_,Builtin.min2],VR.int _ _⟩
 ·cases e
omit hT in
theorem Zy{op:UnOp}{x:XV}{k:AV→Option Y}{y:Y}(e:unX op x k=some y){v:Value}(hx:XR E w vw x v):
  ∃r val,k r=some y∧(Op.unary op v).run P w= .ok val w∧VR E w vw r val:=by
 unfold unX at e;split at e
 ·have hv:=M1 (E:=E) (w:=w) (vw:=vw) hx
  subst hv;exact⟨_,_,e,by simp[Op.unary],VR.bool _⟩
 ·rename_i j n
  have hv:=Ug (E:=E) (w:=w) (vw:=vw) hx;subst hv;exact⟨_,.int j (j.wrap (0-n)),e,by simp[Op.unary,Op.intArith],VR.int _ _⟩
 ·cases e
end
end Go.Fw
end
section
namespace Go.Fw
theorem MM{a:Ty}(x:a.D):eU rfl x=x:=rfl
theorem Wq{w:World}{S:Nat→Prop}:∀{r:Ty} {d j:Nat} {cs:List Value} {x:r.D} {F:AAz} {t:Ty} {y:t.D},Ow w S d r cs x F→Ai r j x=some ⟨t,y⟩→
  ∃v F1 F2,cs[j]? =some v∧Ow w S d t [v] y F1∧F.Perm (F1++F2)∧
   ∀(w':World) (S':Nat→Prop) (v':Value) (y':t.D) (ar:AAz) (x':r.D),(∀b,S b→S' b)→(∀b,S b→w'.heap[b]? =w.heap[b]?)→(∀b∈F2,w'.heap[b]? =w.heap[b]?)→
    Ow w' S' d t [v'] y' ar→Cb r j x t y' =some x'→ ∃F',F'.Perm (ar++F2)∧Ow w' S' d r (cs.set j v') x' F'
 | .cons c r,d,0,cs,x,F,t,y,h,e=>by
  simp only[Ow]at h;obtain⟨v,l,A,B,rfl,rfl,h1,h2⟩:=h;simp only[Ai,AG9,AIx]at e;obtain⟨rfl,e⟩:=e;obtain rfl:=AJE e;refine⟨v,A,B,rfl,h1,AMU _,fun w' S' v' y' ar x' hS fP hF ho hx=> ?_⟩;simp only[Cb,AMP,MM,AG9]at hx;subst hx;refine⟨ar++B,AMU _,?_⟩;simp only[Ow,ALw];exact⟨v',l,ar,B,rfl,rfl,ho,Cr hS fP hF h2⟩
 | .cons c r,d,j+1,cs,x,F,t,y,h,e=>by
  simp only[Ow]at h;obtain⟨v,l,A,B,rfl,rfl,h1,h2⟩:=h;simp only[Ai]at e;obtain⟨u,F1,F2,k1,k2,k3,k4⟩:=Wq h2 e;refine⟨u,F1,A++F2,by simpa using k1,k2,?_,fun w' S' v' y' ar x' hS fP hF ho hx=> ?_⟩
  ·refine(AI_ A k3).trans ?_
   rw[←AHH,←AHH];exact AI2 _ AJA
  ·simp only[Cb,AHF]at hx
   obtain⟨z,hz,rfl⟩:=hx;obtain⟨F',p1,p2⟩:=k4 w' S' v' y' ar z hS fP (fun b hb=>hF b (by simp[hb])) ho hz;refine⟨A++F',?_,?_⟩
   ·refine(AI_ A p1).trans ?_
    rw[←AHH,←AHH];exact AI2 _ AJA
   ·simp only[Ow,List.set_cons_succ]
    exact⟨v,_,A,F',rfl,rfl,Cr hS fP (fun b hb=>hF b (by simp[hb])) h1,p2⟩
 | .int k,d,0,cs,x,F,t,y,h,e=>by
  simp only[Ai,AG9,AIx]at e;obtain⟨rfl,e⟩:=e;obtain rfl:=AJE e;have hc:=RM h;obtain⟨v,rfl⟩:∃v,cs=[v]:=by
   cases cs with
   |nil=>simp[Ty.n]at hc
   |cons a l=>cases l with
    |nil=>exact⟨a,rfl⟩
    |cons _ _=>simp[Ty.n]at hc
  refine⟨v,F,[],rfl,h,by simp,fun w' S' v' y' ar x' hS fP hF ho hx=>⟨ar,by simp,?_⟩⟩;simp only[Cb,AMP,MM,AG9]at hx;subst hx;exact ho
 | .bool,d,0,cs,x,F,t,y,h,e=>by
  simp only[Ai,AG9,AIx]at e;obtain⟨rfl,e⟩:=e;obtain rfl:=AJE e;have hc:=RM h;obtain⟨v,rfl⟩:∃v,cs=[v]:=by
   cases cs with
   |nil=>simp[Ty.n]at hc
   |cons a l=>cases l with
    |nil=>exact⟨a,rfl⟩
    |cons _ _=>simp[Ty.n]at hc
  refine⟨v,F,[],rfl,h,by simp,fun w' S' v' y' ar x' hS fP hF ho hx=>⟨ar,by simp,?_⟩⟩;simp only[Cb,AMP,MM,AG9]at hx;subst hx;exact ho
 | .str,d,0,cs,x,F,t,y,h,e=>by
  simp only[Ai,AG9,AIx]at e;obtain⟨rfl,e⟩:=e;obtain rfl:=AJE e;have hc:=RM h;obtain⟨v,rfl⟩:∃v,cs=[v]:=by
   cases cs with
   |nil=>simp[Ty.n]at hc
   |cons a l=>cases l with
    |nil=>exact⟨a,rfl⟩
    |cons _ _=>simp[Ty.n]at hc
  refine⟨v,F,[],rfl,h,by simp,fun w' S' v' y' ar x' hS fP hF ho hx=>⟨ar,by simp,?_⟩⟩;simp only[Cb,AMP,MM,AG9]at hx;subst hx;exact ho
 | .sl r,d,0,cs,x,F,t,y,h,e=>by
  simp only[Ai,AG9,AIx]at e;obtain⟨rfl,e⟩:=e;obtain rfl:=AJE e;have hc:=RM h;obtain⟨v,rfl⟩:∃v,cs=[v]:=by
   cases cs with
   |nil=>simp[Ty.n]at hc
   |cons a l=>cases l with
    |nil=>exact⟨a,rfl⟩
    |cons _ _=>simp[Ty.n]at hc
  refine⟨v,F,[],rfl,h,by simp,fun w' S' v' y' ar x' hS fP hF ho hx=>⟨ar,by simp,?_⟩⟩;simp only[Cb,AMP,MM,AG9]at hx;subst hx;exact ho
 | .unit,_,_,_,_,_,_,_,_,e=>by simp[Ai]at e
 | .int _,_,_+1,_,_,_,_,_,_,e=>by simp[Ai]at e
 | .bool,_,_+1,_,_,_,_,_,_,e=>by simp[Ai]at e
 | .str,_,_+1,_,_,_,_,_,_,e=>by simp[Ai]at e
 | .sl _,_,_+1,_,_,_,_,_,_,e=>by simp[Ai]at e
theorem Zv{Fs:List AAz}{i:Nat}{G G':AAz}(h:Fs[i]? =some G):(Fs.set i G').flatten.Perm (G'++(Fs.set i []).flatten):=by
 have Dl:=(AG0.1 h).1;have p1:=PG (Fs:=Fs.set i G') (b:=i) (F:=G') (AIp (by omega));rw[AMF]at p1;exact p1
theorem iZ{w:World}{S:Nat→Prop}{d:Nat}{q:Ty}{a:Option Addr}{len cap:Nat}{ys:List q.D}{F:AAz}(h:Ow w S (d+1) (.sl q) [.slice a len cap] ys F){i:Nat}(hi:i<ys.length):
  ∃b o arr ty fr cs G R,a=some ⟨b,o,none⟩∧w.heap[b]? =some (.cells arr ty fr)∧mG fr arr.size∧o+i*q.n+q.n≤arr.size∧cs.length=q.n∧Bp w b (o+i*q.n) cs∧
   Ow w S d q cs (rowAt q ys i) G∧F.Perm (G++(b::R))∧
   ∀(w':World) (S':Nat→Prop) (Jd:Array Value) (VN:List Value) (Ts:q.D) (G':AAz),(∀c,S c→S' c)→(∀c,S c→w'.heap[c]? =w.heap[c]?)→(∀c∈R,w'.heap[c]? =w.heap[c]?)→
    w'.heap[b]? =some (.cells Jd ty fr)→Jd.size=arr.size→(∀k,(k<o+i*q.n∨o+i*q.n+q.n≤k)→Jd[k]? =arr[k]?)→VN.length=q.n→Bp w' b (o+i*q.n) VN→
    Ow w' S' d q VN Ts G'→ ∃F',F'.Perm (G'++(b::R))∧Ow w' S' (d+1) (.sl q) [.slice a len cap] (ys.set i Ts) F':=by
 simp only[Ow]at h;obtain⟨a',cap',e,hle,h⟩:=h;simp only[AJD,Value.slice.injEq,AKa]at e;obtain⟨rfl,rfl,rfl⟩:=e;rcases h with⟨h1,_⟩|⟨b,o,arr,ty,fr,Fs,rfl,hb,LJ,hu,rfl,hFl,VI⟩
 ·omega
 ·have hG:Fs[i]? =some (Fs[i]'(by omega)):=AG7 _
  generalize Fs[i]'(by omega)=G at hG
  obtain⟨cs,c1,c2,c3⟩:=VI i _ G (MS hi) hG;have hbound:o+i*q.n+q.n≤arr.size:=by
   have:(i+1)*q.n≤cap*q.n:=AJd _ (by omega);rw[AKk,AMH]at this;omega
  refine⟨b,o,arr,ty,fr,cs,G,(Fs.set i []).flatten,rfl,hb,fun i hi=>hu i (by omega),hbound,c1,c2,c3,?_,?_⟩
  ·refine(List.Perm.cons b (PG hG)).trans ?_
   exact List.perm_middle.symm
  ·intro w' S' Jd VN Ts G' hS fP hR np zz hk Vm hca ho
   refine⟨b::(Fs.set i G').flatten,?_,?_⟩
   ·refine(List.Perm.cons b (Zv hG)).trans ?_
    exact List.perm_middle.symm
   ·simp only[Ow]
    refine⟨_,cap,by simp,by simpa using hle,.inr ⟨b,o,Jd,ty,fr,Fs.set i G',rfl,np,by omega,by rw[zz];exact hu,rfl,by simpa using hFl,fun k y H hy hH=> ?_⟩⟩;by_cases e:k=i
    ·subst e
     rw[AIp hi]at hy;rw[AIp (by omega)]at hH;cases hy;cases hH;exact⟨VN,Vm,hca,ho⟩
    ·rw[AHi (by omega)]at hy
     rw[AHi (by omega)]at hH;obtain⟨ds,d1,d2,d3⟩:=VI k y H hy hH;refine⟨ds,d1,fun j v hj=> ?_,Cr hS fP (fun c hc=>hR c (AJB.2 ⟨H,AIv (by rw[AHi (by omega)];exact hH:(Fs.set i [])[k]? =some H),hc⟩)) d3⟩;have nS:=(AG0.1 hj).1;have hold:=d2 j v hj;simp only[World.cell?,hb,AK0,AIB,AJU]at hold;simp only[World.cell?,np,AK0,AIB,AJU];rw[hk,hold];rcases Nat.lt_or_gt_of_ne e with e|e
     ·left
      have:(k+1)*q.n≤i*q.n:=AJd _ e;rw[AKk,AMH]at this;omega
     ·right
      have:(i+1)*q.n≤k*q.n:=AJd _ e;rw[AKk,AMH]at this;omega
theorem dh{w:World}{S:Nat→Prop}:∀{p:List bE} {d:Nat} {r:Ty} {h:Value} {rows:List r.D} {F:AAz} {q:Ty} {ys:List q.D},Ow w S d (.sl r) [h] rows F→CI r rows p→
  Ee r rows p=some ⟨q,ys⟩→p.length<d→ ∃h' F1 F2,Gt w h p=some h'∧Ow w S (d-p.length) (.sl q) [h'] ys F1∧F.Perm (F1++F2)∧
   ∀(w':World) (S':Nat→Prop) (ec:List q.D) (ar:AAz) (B3:List r.D),(∀c,S c→S' c)→(∀c,S c→w'.heap[c]? =w.heap[c]?)→(∀c∈F2,w'.heap[c]? =w.heap[c]?)→
    Ow w' S' (d-p.length) (.sl q) [h'] ec ar→ew r rows p q ec=some B3→ ∃F',F'.Perm (ar++F2)∧Ow w' S' d (.sl r) [h] B3 F'
 |[],d,r,h,rows,F,q,ys,ho,_,hg,_=>by
  simp only[Ee,AG9,AIx]at hg;obtain⟨rfl,e⟩:=hg;obtain rfl:=AJE e;refine⟨h,F,[],B6,ho,by simp,fun w' S' ec ar B3 _ _ _ lb hs=>⟨ar,by simp,?_⟩⟩;simp only[ew,AMP,MM,AG9]at hs;subst hs;exact lb
 |s::p,d,r,h,rows,F,q,ys,ho,hp,hg,hd=>by
  obtain⟨d,rfl⟩:∃n,d=n+1:=⟨d-1,by simp at hd;omega⟩;simp only[CI]at hp;obtain⟨hi,LJ,hp⟩:=hp;simp only[Ee]at hg;obtain⟨a,len,cap,rfl⟩:∃a len cap,h= .slice a len cap:=by
   have:=ho;simp only[Ow]at this;obtain⟨a,cap,e,_⟩:=this;simp only[AJD,AKa]at e;exact⟨_,_,_,e⟩
  split at hg
  case h_2=>cases hg
  rename_i q' x' V5;rw[V5]at hp;obtain⟨b,o,arr,ty,fr,cs,G,R,rfl,hb,hu,hbd,c1,c2,c3,az,hback⟩:=iZ ho hi;obtain⟨v,A1,A2,k1,k2,k3,k4⟩:=Wq c3 V5;obtain⟨h',F1,F2,m1,m2,m3,m4⟩:=dh k2 hp hg (by simp at hd;omega);have rG:d+1-(s::p).length=d-p.length:=by simp
  refine⟨h',F1,F2++A2++(b::R),?_,by rw[rG];exact m2,?_,?_⟩
  ·simp only[Gt]
   rw[LJ,c2 _ _ k1];exact m1
  ·refine az.trans ?_
   rw[AHH F2,←AHH F1];refine(AI2 _ k3).trans ?_
   rw[←AHH (F1++F2)];exact AI2 _ (AI2 _ m3)
  ·intro w' S' ec ar B3 hS fP hF2 lb Pd
   rw[rG]at lb;simp only[ew,V5]at Pd;simp only[AHL,AHF]at Pd;obtain⟨x2,hx2,Ts,hrow,rfl⟩:=Pd;obtain⟨B1,p1,p2⟩:=m4 w' S' ec ar x2 hS fP (fun c hc=>hF2 c (by simp[hc])) lb hx2;obtain⟨B2,p3,p4⟩:=k4 w' S' v x2 B1 Ts hS fP (fun c hc=>hF2 c (by simp[hc])) p2 hrow;have AAZ:cs.set s.j v=cs:=by
    apply ALy;intro k;by_cases e:k=s.j
    ·subst e
     rw[AIp (AG0.1 k1).1,k1]
    ·rw[AHi (by omega)]
   rw[AAZ]at p4;have s9:=hF2 b (by simp);obtain⟨F',p5,p6⟩:=hback w' S' arr cs Ts B2 hS fP (fun c hc=>hF2 c (by simp[hc])) (s9.trans hb) rfl (fun _ _=>rfl) c1 (c2.of_block s9) p4;refine⟨F',?_,p6⟩;refine p5.trans ?_
   rw[AHH F2,←AHH ar];refine(AI2 _ p3).trans ?_
   rw[←AHH (ar++F2)];exact AI2 _ (AI2 _ p1)
end Go.Fw
end
section
namespace Go.Fw
def OR(E:Env)(w:World)(vw:List Bx):Option XV→Option Value→Prop
 |none,none=>True
 |some x,some v=>XR E w vw x v
 |_,_=>False
section
variable{Y:Type} {P:Program} {T:G8} (hT:Dd P T) {E:Env} {w:World} {vw:List Bx}
theorem run_sliceBound{κ:IntKind}{i:Int}{y:Nat}{code:BoundsCode}(h0:0≤i)(h1:i≤(y:Int)):(Instr.sliceBound (.int κ i) y code).run P w= .ok i.toNat w:=by
 simp[Instr.sliceBound,asIntOf,h0,h1]
theorem OM{len cap:Nat}(hc:len≤cap){lo hi:Option XV}{k:Nat→Nat→Option Y}{y:Y}(e:KR len lo hi k=some y){lv hv:Option Value}
  (hl:OR E w vw lo lv) (hh:OR E w vw hi hv) (b:Bool):∃l h,k l h=some y∧l≤h∧h≤len∧(Instr.sliceBounds b len cap lv hv none).run P w= .ok (l,h,cap) w:=by
 unfold KR at e;dsimp only at e;split at e
 case h_2=>cases e
 rename_i l h el eh;split at e
 case isFalse=>cases e
 rename_i hb;obtain⟨b1,b2,b3⟩:=hb;refine⟨l.toNat,h.toNat,e,by omega,by omega,?_⟩;cases hi with
 |none=>cases hv with
  |some _=>exact hh.elim
  |none=>
   simp only[AG9]at eh;subst eh;cases lo with
   |none=>cases lv with
    |some _=>exact hl.elim
    |none=>
     simp only[AG9]at el;subst el;simp[Instr.sliceBounds]
   |some x=>cases lv with
    |none=>exact hl.elim
    |some v=>
     obtain⟨κ,rfl⟩:=GA (E:=E) (w:=w) (vw:=vw) el hl;simp[Instr.sliceBounds,run_sliceBound (P:=P) (w:=w) (κ:=κ) (i:=l) (y:=len) b1 (by omega)]
 |some x=>cases hv with
  |none=>exact hh.elim
  |some v=>
   obtain⟨κ,rfl⟩:=GA (E:=E) (w:=w) (vw:=vw) eh hh;have e1:=fun code=>run_sliceBound (P:=P) (w:=w) (κ:=κ) (i:=h) (y:=cap) (code:=code) (by omega) (by omega)
   cases lo with
   |none=>cases lv with
    |some _=>exact hl.elim
    |none=>
     simp only[AG9]at el;subst el;simp[Instr.sliceBounds,e1]
   |some x=>cases lv with
    |none=>exact hl.elim
    |some v=>
     obtain⟨κ',rfl⟩:=GA (E:=E) (w:=w) (vw:=vw) el hl;have e2:=fun code=>run_sliceBound (P:=P) (w:=w) (κ:=κ') (i:=l) (y:=h.toNat) (code:=code) b1 (by omega)
     simp[Instr.sliceBounds,e1,e2]
theorem fy(s:AA_)(l h:Nat):(⟨s.toArray⟩:ByteArray).extract l h=⟨((s.drop l).take (h-l)).toArray⟩:=by
 apply ByteArray.ext;simp[List.extract_eq_take_drop]
include hT
theorem Yj{σ:St}{Fs:List AAz}(hB:JV E w σ.bx σ.bx Fs)(st:∀c,E.S c→E.T c){t:Nat}{x:XV}{lo hi:Option XV}{k:K Y}{y:Y}(e:aD T t σ x lo hi k=some y)
  {v:Value} {lv hv:Option Value} (hx:XR E w σ.bx x v) (hl:OR E w σ.bx lo lv) (hh:OR E w σ.bx hi hv):
  ∃z val,k z σ=some y∧(Instr.sliceAt t v lv hv none).run P w= .ok val w∧XR E w σ.bx z val:=by
 unfold aD at e;split at e
 ·rename_i s
  split at e
  case isFalse=>cases e
  rename_i mA;have hu:=Q8 hT mA;have VM:=Rn (E:=E) (w:=w) (vw:=σ.bx) hx;subst VM;obtain⟨l,h,ek,h1,h2,hr⟩:=OM (P:=P) (cap:=s.length) (AJI _) e hl hh false;refine⟨_,.string ⟨((s.drop l).take (h-l)).toArray⟩,ek,?_,VR.str (E:=E) (vw:=σ.bx) _⟩;have hs:(⟨s.toArray⟩:ByteArray).size=s.length:=by simp[ByteArray.size]
  simp[Instr.sliceAt,Az hu,Instr.slice,hs,hr,fy]
 ·rename_i s r rows
  split at e
  case isFalse=>cases e
  rename_i UK;obtain⟨el,ti,hu,Mv,hs,_⟩:=J2 hT UK;have LJ:=Dd.sizeOf hT Mv w
  change VR E w σ.bx (.sl s r rows) v at hx
  have lT:=hx;simp only[VR,Rd]at lT;obtain⟨a,cap,VM,hle,_⟩:=lT;simp only[AJD,AKa]at VM;subst VM;obtain⟨l,h,ek,h1,h2,hr⟩:=OM (P:=P) hle e hl hh true;refine⟨_,NW r.n l (h-l) a cap,ek,?_,?_⟩
  ·simp[Instr.sliceAt,Az hu,Instr.slice,hr,LJ,hs,NW]
  ·simp only[XR,VR]at hx⊢
   exact lx hx (by omega)
 ·rename_i b p
  split at e
  case h_2=>cases e
  rename_i q hq;split at e
  case isFalse=>cases e
  rename_i UK;obtain⟨el,ti,hu,Mv,hs,_⟩:=J2 hT UK;have LJ:=Dd.sizeOf hT Mv w
  change VR E w σ.bx (.ref b p) v at hx
  obtain⟨a,cap,rfl,hle,_⟩:=lZ hB st hx hq;obtain⟨l,h,ek,h1,h2,hr⟩:=OM (P:=P) hle e hl hh true;refine⟨_,NW q.1.n l (h-l) a cap,ek,?_,?_⟩
  ·simp[Instr.sliceAt,Az hu,Instr.slice,hr,LJ,hs,NW]
  ·simp only[Jc]at hq
   obtain⟨_,hx⟩:=hx;refine⟨by simp[NW,isSlice],?_⟩;revert hx;split
   ·rename_i d r rows YO
    rw[YO]at hq;dsimp only at hq
    rintro⟨hp,hg,hh⟩
    exact⟨hp,q.1,q.2,a,_,cap,hq,by omega,hh,rfl⟩
   ·exact fun _=>trivial
   ·exact fun h=>h
 ·cases e
omit hT in
theorem U4{f:Nat→Option AV}:∀{n j:Nat} {l:List AV},Vw f j n=some l→l.length=n∧ ∀(i:Nat) x,l[i]? =some x→f (j+i)=some x
 |0,j,l,e=>by simp only[Vw,AG9]at e;subst e;simp
 |n+1,j,l,e=>by
  simp only[Vw,AHL,AHF]at e;obtain⟨x,hx,l',hl,rfl⟩:=e;obtain⟨h1,h2⟩:=U4 hl;refine⟨by simp[h1],fun i z hz=> ?_⟩;cases i with
  |zero=>simp at hz;subst hz;exact hx
  |succ i=>
   have:=h2 i z (by simpa using hz)
   rwa [show j+1+i=j+(i+1)by omega]at this
omit hT in
theorem Qr{B:Nat→Prop}{t:Ty}{x:t.D}{v:Value}(h:Rd w B t [v] x)(hs:t.scalar=true):VR E w vw (.v t x) v:=by
 refine⟨hs,?_⟩;cases t<;>first
  |(simpa only[Rd]using h)
  |(simp[Ty.scalar]at hs)
omit hT in
theorem og{s:Bool}{t:Ty}{x:t.D}{v:Value}(h:Rd w (if s then E.S else E.T) t [v] x):VR E w vw (mS s ⟨t,x⟩) v:=by
 cases t with
 |sl r=>simp only[mS,VR];exact h
 |int k=>exact Qr h rfl
 |bool=>exact Qr h rfl
 |str=>exact Qr h rfl
 |unit=>trivial
 |cons c r=>trivial
omit hT in
theorem a8{s:bE}:∀{p:List bE} {r:Ty} {rows:List r.D} {q:Ty} {ys:List q.D} {t:Ty} {x:List t.D},CI r rows p→Ee r rows p=some ⟨q,ys⟩→s.i<ys.length→s.sz=q.n→
  Ai q s.j (rowAt q ys s.i)=some ⟨.sl t,x⟩→CI r rows (p++[s])∧Ee r rows (p++[s])=some ⟨t,x⟩
 |[],r,rows,q,ys,t,x,_,hg,hi,hs,hc=>by
  simp only[Ee,AG9,AIx]at hg;obtain⟨rfl,e⟩:=hg;obtain rfl:=AJE e;refine⟨?_,?_⟩
  ·simp only[AJF,CI,hc]
   exact⟨hi,hs,trivial⟩
  ·simp only[AJF,Ee,hc]
 |s'::p,r,rows,q,ys,t,x,hp,hg,hi,hs,hc=>by
  simp only[CI]at hp;obtain⟨h1,h2,hp⟩:=hp;simp only[Ee]at hg;split at hg
  ·rename_i q' x' V5
   rw[V5]at hp;obtain⟨a,b⟩:=a8 hp hg hi hs hc;refine⟨?_,?_⟩
   ·simp only[AKv,CI,V5]
    exact⟨h1,h2,a⟩
   ·simp only[AKv,Ee,V5]
    exact b
  ·cases hg
omit hT in
theorem ct{s:bE}:∀{p:List bE} {h:Value} {b o len cap:Nat} {v:Value},Gt w h p=some (.slice (some ⟨b,o,none⟩) len cap)→w.cell? ⟨b,o+s.i*s.sz+s.j,none⟩=some v→
  Gt w h (p++[s])=some v
 |[],h,b,o,len,cap,v,e,hc=>by
  rw[B6]at e;cases e;simp[Gt,hc,B6]
 |s'::p,h,b,o,len,cap,v,e,hc=>by
  cases h with
  |slice a l c=>
   cases a with
   |none=>simp[Gt]at e
   |some a=>
    simp only[Gt]at e;split at e
    ·rename_i h' hh
     simp only[AKv,Gt,hh];exact ct e hc
    ·cases e
  |_=>simp[Gt]at e
omit hT in
theorem IQ{bx:List Bx}{Fs:List AAz}(hB:JV E w bx bx Fs)(st:∀c,E.S c→E.T c){x z:AV}{i:Nat}(e:Gm bx x i=some z){v:Value}(hx:VR E w bx x v):
  ∃b o u,v= .pointer (some ⟨b,o,none⟩)∧w.cell? ⟨b,o+i,none⟩=some u∧VR E w bx z u:=by
 cases x with
 |FY b j=>
  simp only[Gm]at e;split at e
  ·rename_i cs hb
   obtain⟨F,⟨_,arr,ty,fr,ha,hu,hv⟩,_⟩:=hB.get hb;obtain⟨u,h1,h2⟩:=Bi.get hv e;refine⟨_,_,u,hx.2,?_,h2⟩;simp only[World.cell?,ha,AK0,AIB,AJU];simpa using h1
  ·cases e
 |Gd b p r sz j=>
  simp only[Gm]at e;split at e
  ·rename_i d q rows hb
   split at e
   case isFalse=>cases e
   rename_i hd;simp only[AHL]at e;obtain⟨⟨q',ec⟩,hg,e⟩:=e;split at e
   case isFalse=>cases e
   rename_i LJ;simp only[AHF]at e;obtain⟨⟨t,y⟩,hc,rfl⟩:=e;simp only[VR,hb]at hx;obtain⟨_,hp,q1,ys,bb,o,len,cap,g1,g2,g3,rfl⟩:=hx;rw[hg]at g1;simp only[AG9,AIx]at g1;obtain⟨rfl,g1⟩:=g1;obtain rfl:=AJE g1;dsimp only at LJ hc;obtain⟨F,⟨hd1,ho⟩,hF⟩:=hB.get hb;have Rv:=Vy (DU.refl bx) hB st hb hp hg g3;have ANb:=Rv;simp only[Rd]at Rv;obtain⟨a',cap',ee,hle,Rv⟩:=Rv;simp only[AJD,Value.slice.injEq,AKa]at ee;obtain⟨rfl,rfl,rfl⟩:=ee;rcases Rv with Rv|⟨b1,o1,e7,_,Rv⟩
   ·omega
   ·cases e7
    obtain⟨cs,c1,c2,c3⟩:=Rv r _ (MS g2);obtain⟨u,hu,hur⟩:=Wi c3 hc;have SF:=c2 _ _ hu;rw[←LJ]at SF;refine⟨_,_,u,rfl,by rw[AL3];exact SF,?_⟩;cases t with
    |sl t' =>
     simp only[nA];split
     ·rename_i wS
      obtain⟨h',F1,F2,m1,m2,_,_⟩:=dh ho hp hg hd;rw[g3]at m1;cases m1;rw[show d-p.length=0+1 by omega]at m2;obtain⟨b2,o2,arr,ty,fr,cs2,G,R,e2,_,_,_,_,k2,k3,_,_⟩:=iZ m2 g2;cases e2;obtain⟨v2,A1,A2,z1,z2,_,_⟩:=Wq k3 hc;have qf:=k2 _ _ z1;rw[←LJ,SF]at qf;cases qf;simp only[Ow]at z2;simp only[VR];exact z2.1
     ·simp only[VR,hb]
      have:=a8 (s:=⟨r,sz,j+i⟩) hp hg g2 LJ hc;simp only[Rd]at hur;obtain⟨a2,cap2,e2,_⟩:=hur;simp only[AJD,AKa]at e2;refine⟨by rw[e2];rfl,this.1,⟨_,this.2⟩,ct g3 SF⟩
    |int k=>exact Qr hur rfl
    |bool=>exact Qr hur rfl
    |str=>exact Qr hur rfl
    |unit=>trivial
    |cons c r=>trivial
  ·cases e
 |KB s r y j=>
  simp only[Gm,AHF]at e;obtain⟨⟨t,y'⟩,hc,rfl⟩:=e;obtain⟨bb,o,cs,rfl,h2,h3,h4,h5⟩:=hx;obtain⟨u,hu,hur⟩:=Wi h5 hc;refine⟨_,_,u,rfl,by rw[AL3];exact h4 _ _ hu,og hur⟩
 |_=>simp[Gm]at e
omit hT in
theorem Vp{bx:List Bx}{Fs:List AAz}(hB:JV E w bx bx Fs)(st:∀c,E.S c→E.T c){x:AV}{v:Value}(hx:VR E w bx x v){b o:Nat}(hv:v= .pointer (some ⟨b,o,none⟩)):
  ∀{l:List AV} {j:Nat},(∀(i:Nat) z,l[i]? =some z→Gm bx x (j+i)=some z)→ ∃cs:List Value,cs.length=l.length∧Bp w b (o+j) cs∧YM E w bx l cs
 |[],_,_=>⟨[],rfl,fun _ _ h=>by simp at h,trivial⟩
 |z::l,j,h=>by
  obtain⟨b',o',u,e1,e2,e3⟩:=IQ hB st (h 0 z rfl) hx;subst hv;simp only[Value.pointer.injEq,AG9,Addr.mk.injEq,AKa]at e1;obtain⟨rfl,rfl⟩:=e1;obtain⟨cs,c1,c2,c3⟩:=Vp hB st hx rfl (l:=l) (j:=j+1) (fun i y hy=>by
   have:=h (i+1) y (by simpa using hy)
   rwa [show j+1+i=j+(i+1)by omega])
  refine⟨u::cs,by simp[c1],fun i y hy=> ?_,e3,c3⟩;cases i with
  |zero=>simp at hy;subst hy;exact e2
  |succ i=>
   have:=c2 i y (by simpa using hy)
   rwa [show o+(j+1)+i=o+j+(i+1)by omega]at this
theorem kV{σ:St}{Fs:List AAz}(hB:JV E w σ.bx σ.bx Fs)(st:∀c,E.S c→E.T c){t:Nat}{x z:XV}(e:aq T t σ x=some z){v:Value}(hx:XR E w σ.bx x v):
  ∃u,(Instr.loadAt t v).run P w= .ok u w∧XR E w σ.bx z u:=by
 unfold aq at e;split at e
 case h_2=>cases e
 rename_i x ti Mv;split at e
 case isTrue=>cases e
 rename_i LJ;have Yl:=Dd.isAgg hT Mv w;split at e
 ·rename_i ha
  rw[ha]at Yl;simp only[AHF]at e;obtain⟨l,hl,rfl⟩:=e;obtain⟨h1,h2⟩:=U4 hl;have h0:0<l.length:=by omega
  obtain⟨b,o,u,hv,_,_⟩:=IQ hB st (h2 0 _ (AG7 h0)) hx;obtain⟨cs,c1,c2,c3⟩:=Vp hB st hx hv (l:=l) (j:=0) (fun i y hy=>by simpa using h2 i y hy);subst hv;have Yy:=(hT t ti Mv).qz;cases hd:ti.desc with
  |st fs=>
   rw[hd]at Yy;obtain⟨fields,hu,_⟩:=Yy;refine⟨.agg cs.toArray,run_loadAt_mid w b o t cs _ (by simpa[Bp,World.rangeAt]using c2) hu rfl ?_,cs.toArray,rfl,by simpa using c3⟩;rw[Dd.size hT Mv,c1,h1]
  |_=>rw[hd]at ha;simp[TD.agg]at ha
 ·rename_i ha
  simp only[AI9]at ha;rw[ha]at Yl;simp only[AHF]at e;obtain⟨y,hy,rfl⟩:=e;obtain⟨b,o,u,hv,hc,hr⟩:=IQ hB st hy hx;subst hv;refine⟨u,?_,hr⟩;simp only[ALW]at hc;simp[Instr.loadAt,Instr.sureAddr,loadVar,Yl,hc]
end
end Go.Fw
end
section
namespace Go.Fw
theorem cp{w:World}{S:Nat→Prop}{d:Nat}{q:Ty}:Ow w S d (.sl q) [.slice none 0 0] [] []:=by
 cases d with
 |zero=>simp only[Ow,Rd];exact⟨⟨none,0,rfl,by simp,.inl rfl⟩,trivial⟩
 |succ d=>simp only[Ow];exact⟨none,0,rfl,by simp,.inl ⟨rfl,trivial⟩⟩
theorem qR{w:World}{S:Nat→Prop}{d:Nat}{r:Ty}{a:Option Addr}{len cap:Nat}{ys:List r.D}{F:AAz}(h:Ow w S (d+1) (.sl r) [.slice a len cap] ys F){off n:Nat}(hn:off+n≤ys.length):
  ∃F1 F2,F.Perm (F1++F2)∧Ow w S (d+1) (.sl r) [NW r.n off n a cap] ((ys.drop off).take n) F1:=by
 simp only[Ow]at h⊢;obtain⟨a',cap',e,hc,h⟩:=h;simp only[AJD,Value.slice.injEq,AKa]at e;obtain⟨rfl,rfl,rfl⟩:=e;have hl:((ys.drop off).take n).length=n:=by simp;omega
 by_cases h0:cap=off
 ·subst h0
  refine⟨[],F,by simp,a,0,by simp[NW,hl],by rw[hl];omega,.inl ⟨rfl,rfl⟩⟩
 ·rcases h with⟨h,rfl⟩|⟨b,o,arr,ty,fr,Fs,rfl,hb,LJ,hu,rfl,hFl,hr⟩
  ·refine⟨[],[],by simp,a.map (·.add (off*r.n)),cap-off,by simp[NW,hl,h0],by rw[hl];omega,.inl ⟨by omega,rfl⟩⟩
  ·have p:Fs.flatten.Perm (((Fs.drop off).take n).flatten++((Fs.take off).flatten++(Fs.drop (off+n)).flatten)):=by
    have e:Fs=Fs.take off++(((Fs.drop off).take n)++Fs.drop (off+n)):=by
     rw[←List.drop_drop,AMK,AMK]
    conv=>lhs;rw[e]
    rw[AKl,AKl,←AHH,←AHH];exact AI2 _ AJA
   refine⟨b::((Fs.drop off).take n).flatten,(Fs.take off).flatten++(Fs.drop (off+n)).flatten,List.Perm.cons b p,some ⟨b,o+off*r.n,none⟩,cap-off,?_,by rw[hl];omega,.inr ⟨b,o+off*r.n,arr,ty,fr,_,rfl,hb,?_,hu,rfl,?_,?_⟩⟩
   ·simp[NW,h0,hl,Addr.add_eq]
   ·have:off*r.n+(cap-off)*r.n=cap*r.n:=by rw[←AKk];congr 1;omega
    omega
   ·rw[hl];simp;omega
   ·intro i y G hy hG
    have hi:=(AG0.1 hy).1;rw[hl]at hi;rw[List.getElem?_take_of_lt hi,ALv]at hy hG;obtain⟨cs,c1,c2,c3⟩:=hr (off+i) y G hy hG;refine⟨cs,c1,?_,c3⟩;rw[AKk,←AL3]at c2;exact c2
theorem Le.keep{E E':Env}(h:Le E E'){w:World}{vw:List Bx}(st:∀c,E.S c→E.T c):Np E w vw E' w vw:=
 ⟨AJI _,fun b _=>by rw[h.Ff],h.T,h.S,st,fun _ _=>rfl,fun b d r rows _ e=>⟨d,rows,e,fun p hp q ys hg=>⟨hp,⟨ys,hg,rfl⟩,fun h' hh=>by rw[h.Ft];exact hh⟩⟩⟩
theorem CD.share{E:Env}{w:World}{vw bx:List Bx}{F W G:AAz}(h:CD E w vw bx (F++W++G)):
  let E':Env:={ E with S:=fun c=>E.S c∨c∈W,T:=fun c=>E.T c∨c∈W }
  Le E E'∧CD E' w vw bx (F++G):=by
 intro E';have st:=h.st;have hle:Le E E':=⟨rfl,rfl,fun c hc=> .inl hc,fun c hc=> .inl hc,fun c hc=>hc.elim .inl fun h' => .inr (.inr h'),fun c hc=>hc.elim .inl fun h' => .inr (h.qT c (by simp[h']))⟩;refine⟨hle,?_⟩;obtain⟨Fs,⟨h1,h2⟩,h3⟩:=h;refine⟨Fs,⟨h1,fun k B F' hk hF=> ?_⟩,?_⟩
 ·have:=h2 k B F' hk hF
  cases B with
  |mem cs=>
   obtain⟨rfl,arr,ty,fr,a1,a2,a3⟩:=this;exact⟨rfl,arr,ty,fr,a1,a2,a3.imp fun _ _ hv=>EB (hle.keep st) hv⟩
  |sl d r rows=>exact⟨this.1,Cr hle.S (fun _ _=>rfl) (fun _ _=>rfl) this.2⟩
  |dead=>exact this
 ·have h4:Sep E w (W++(Fs.flatten++(F++G))):=h3.perm (by
   rw[AHH F W G,←AHH Fs.flatten,←AHH (Fs.flatten++F),←AHH Fs.flatten F G,←AHH W];exact AI2 _ AJA)
  refine⟨(AIJ.1 h4.nodup).2.1,fun c hc ht=> ?_,fun c hc=>h4.lt c (by simp only[AIf];exact .inr (by simpa using hc)),fun c hc=>hc.imp (st c) id,fun c hc=>hc.elim (h4.XS c) fun h' =>h4.lt c (by simp[h'])⟩;rcases ht with ht|ht
  ·exact h4.free c (AIf.2 (.inr hc)) ht
  ·exact(AIJ.1 h4.nodup).2.2 c ht c hc rfl
structure Ep (E:Env) (w:World) (vw bx:List Bx) (G:AAz) (E':Env) (Ls:List Bx) (F:AAz):Prop where
 le:Le E E'
 len:Ls.length=bx.length
 within:∀(b:Nat) (B:Bx),Ls[b]? =some B→B= .dead∨bx[b]? =some B
 boxes:CD E' w vw Ls (F++G)
theorem Ep.refl{E:Env}{w:World}{vw bx:List Bx}{G:AAz}(h:CD E w vw bx G):Ep E w vw bx G E bx []:=
 ⟨Le.refl E,rfl,fun _ _ h=> .inr h,h⟩
theorem DU.dv{E E':Env}{w:World}{vw bx Ls:List Bx}{G F:AAz}(h:DU bx vw)(k:Ep E w vw bx G E' Ls F):DU Ls vw:=fun b B e=>
 (k.within b B e).elim .inl (h b B)
theorem Un{E:Env}{w:World}{vw bx:List Bx}{G:AAz}(h:CD E w vw bx G)(hw:DU bx vw){d:Nat}(hd:1≤d){t:Ty}{x:AV}{v:Value}(hv:VR E w vw x v){y:t.D}{Ls:List Bx}{d':Nat}
  (e:V9 d t x bx=some (y,Ls,d')):1≤d'∧d'≤d∧ ∃E' F,Ep E w vw bx G E' Ls F∧Ow w E'.S (d'-1) t [v] y F:=by
 unfold V9 at e;split at e
 ·rename_i u z
  simp only[AHF,AJH]at e;obtain⟨z',e1,rfl,rfl,rfl⟩:=e;obtain⟨e2,e3⟩:=Fa e1;subst e2;subst e3;refine⟨hd,AJI _,E,[],Ep.refl h,?_⟩;obtain⟨hs,hr⟩:=hv;cases u<;>simp_all[Ty.scalar,Ow,Rd]
 ·split at e
  ·simp only[AG9,AJH]at e
   obtain⟨rfl,rfl,rfl⟩:=e;simp only[VR]at hv;subst hv;exact⟨hd,AJI _,E,[],Ep.refl h,cp⟩
  ·cases e
 ·rename_i r z
  split at e
  ·rename_i q
   simp only[AHF,AJH]at e;obtain⟨z',e1,rfl,rfl,rfl⟩:=e;obtain⟨e2,e3⟩:=Fa e1;subst e2;subst e3;refine⟨AJI _,hd,E,[],Ep.refl h,?_⟩;simp only[VR]at hv;simp only[AMG,Ow];exact⟨by simpa using hv,trivial⟩
  ·cases e
 ·rename_i b
  split at e
  case h_2=>cases e
  rename_i q;split at e
  case h_2=>cases e
  rename_i db r z hb;simp only[AHF,AJH]at e;obtain⟨z',e1,rfl,rfl,rfl⟩:=e;obtain⟨e2,e3⟩:=Fa e1;subst e2;subst e3;obtain⟨F0,⟨hd1,ho⟩,hB⟩:=h.take hb;have hvv:v=E.Ft b:=by
   simp only[VR,Sr hw hb,B6]at hv;simpa using hv.2.2.2.symm
  subst hvv;obtain⟨F1,W,hp,lb⟩:=HB (d:=min d (db+1)-1) (by omega) ho;have Md:=hB.perm (AI2 G hp);obtain⟨hle,Qq⟩:=Md.share;refine⟨by omega,Nat.min_le_left _ _,_,F1,⟨hle,by simp,fun k B hk=> ?_,Qq⟩,lb⟩;by_cases ek:k=b
  ·subst ek
   rw[AIp (AG0.1 hb).1]at hk;cases hk;exact .inl rfl
  ·rw[AHi (by omega)]at hk;exact .inr hk
 ·rename_i b off n
  split at e
  case h_2=>cases e
  rename_i q;split at e
  case h_2=>cases e
  rename_i db r z hb;simp only[AHF,AJH]at e;obtain⟨z',e1,rfl,rfl,rfl⟩:=e;obtain⟨e2,e3⟩:=Fa e1;subst e2;subst e3;obtain⟨F0,⟨hd1,ho⟩,hB⟩:=h.take hb;simp only[VR,Sr hw hb,B6]at hv;obtain⟨_,_,q',ys,a,len,cap,hg,hn,hh,rfl⟩:=hv;simp only[Ee,AG9,AIx]at hg;obtain⟨rfl,hg⟩:=hg;obtain rfl:=AJE hg;simp only[AG9]at hh;rw[hh]at ho;obtain⟨db,rfl⟩:∃m,db=m+1:=⟨db-1,by omega⟩;obtain⟨A1,A2,hp0,ho0⟩:=qR ho hn;obtain⟨F1,W,hp,lb⟩:=HB (d:=min d (db+1+1)-1) (by omega) ho0;have hB1:CD E w vw (bx.set b .dead) (A1++G):=by
   refine CD.drop (G':=A2) (hB.perm ?_);refine(AI2 G hp0).trans ?_
   rw[AHH,AHH];exact AI_ _ AJA
  have Md:=hB1.perm (AI2 G hp);obtain⟨hle,Qq⟩:=Md.share;refine⟨by omega,Nat.min_le_left _ _,_,F1,⟨hle,by simp,fun k B hk=> ?_,Qq⟩,lb⟩;by_cases ek:k=b
  ·subst ek
   rw[AIp (AG0.1 hb).1]at hk;cases hk;exact .inl rfl
  ·rw[AHi (by omega)]at hk;exact .inr hk
 ·cases e
theorem TO{w:World}{vw:List Bx}:∀{r:Ty} {E:Env} {bx:List Bx} {G:AAz} {d:Nat} {l:List AV} {vs:List Value} {y:r.D} {Ls:List Bx} {d':Nat},CD E w vw bx G→DU bx vw→1≤d→
  YM E w vw l vs→cellsIn d r l bx=some (y,Ls,d')→1≤d'∧d'≤d∧ ∃E' F,Ep E w vw bx G E' Ls F∧Ow w E'.S (d'-1) r vs y F
 | .unit,E,bx,G,d,[],[],y,Ls,d',h,hw,hd,_,e=>by
  simp only[cellsIn,AG9,AJH]at e;obtain⟨_,rfl,rfl⟩:=e;exact⟨hd,AJI _,E,[],Ep.refl h,by simp only[Ow];exact⟨trivial,trivial⟩⟩
 | .cons c r,E,bx,G,d,x::l,v::vs,y,Ls,d',h,hw,hd,hv,e=>by
  simp only[cellsIn,AHL,AHF,AJH]at e;obtain⟨⟨y1,Yi,d1⟩,e1,⟨y2,Tb,d2⟩,e2,rfl,rfl,rfl⟩:=e;dsimp only at e2⊢;obtain⟨a1,a2,E1,F1,k1,o1⟩:=Un h hw hd hv.1 e1;have j0:=k1.le.keep (w:=w) (vw:=vw) h.st;obtain⟨b1,b2,E2,F2,k2,o2⟩:=TO (G:=F1++G) k1.boxes (hw.dv k1) a1 (hv.2.imp fun _ _ h=>EB j0 h) e2;obtain⟨A,W,hp,o1'⟩:=HB (d:=d'-1) (by omega) o1;have hB:=k2.boxes.perm (G':=(F2++A)++W++G) (by
   rw[AHH F2 A W,AHH F2];exact AI_ _ (AI2 _ hp))
  obtain⟨hle,Qq⟩:=hB.share;refine⟨b1,AJe b2 a2,_,A++F2,⟨(k1.le.trans k2.le).trans hle,k2.len.trans k1.len,fun b B hb=>(k2.within b B hb).elim .inl (k1.within b B),Qq.perm (AI2 _ AJA)⟩,?_⟩;simp only[Ow];refine⟨v,vs,A,F2,rfl,rfl,?_,?_⟩
  ·refine Cr (S:=fun b=>E1.S b∨b∈W) ?_ (fun _ _=>rfl) (fun _ _=>rfl) o1'
   intro c hc;exact hc.elim (fun h=> .inl (k2.le.S c h)) .inr
  ·refine Cr (S:=E2.S) ?_ (fun _ _=>rfl) (fun _ _=>rfl) o2
   intro c hc;exact .inl hc
 | .unit,_,_,_,_,_::_,_,_,_,_,_,_,_,_,e=>by simp[cellsIn]at e
 | .unit,_,_,_,_,[],_::_,_,_,_,_,_,_,hv,_=>hv.elim
 | .cons _ _,_,_,_,_,[],_,_,_,_,_,_,_,_,e=>by simp[cellsIn]at e
 | .cons _ _,_,_,_,_,_::_,[],_,_,_,_,_,_,hv,_=>hv.elim
 | .int _,_,_,_,_,_,_,_,_,_,_,_,_,_,e=>by simp[cellsIn]at e
 | .bool,_,_,_,_,_,_,_,_,_,_,_,_,_,e=>by simp[cellsIn]at e
 | .str,_,_,_,_,_,_,_,_,_,_,_,_,_,e=>by simp[cellsIn]at e
 | .sl _,_,_,_,_,_,_,_,_,_,_,_,_,_,e=>by simp[cellsIn]at e
theorem iY{E:Env}{w:World}{vw:List Bx}{x:AV}{v:Value}(h:VR E w vw x v)(hk:x.known=true):v.oneCell' =true∧v.cells= #[v]:=by
 have aux:∀{v:Value},isSlice v=true→v.oneCell' =true∧v.cells= #[v]:=by intro v h;cases v<;>simp_all[isSlice,Value.oneCell',Value.cells]
 have AKS:∀{v:Value},VJ v=true→v.oneCell' =true∧v.cells= #[v]:=by intro v h;cases v<;>simp_all[VJ,Value.oneCell',Value.cells]
 cases x with
 |v t y=>
  obtain⟨hs,hr⟩:=h;cases t<;>simp[Ty.scalar]at hs<;>simp only[Rd,AJD,AKa]at hr<;>subst hr<;>exact⟨rfl,rfl⟩
 |sl s r y=>
  simp only[VR,Rd]at h;obtain⟨a,cap,h,_⟩:=h;simp only[AJD,AKa]at h;subst h;exact⟨rfl,rfl⟩
 |nil=>simp only[VR]at h;subst h;exact⟨rfl,rfl⟩
 |ref b p=>exact aux h.1
 |win b p off n=>exact aux h.1
 |FY b j=>rw[h.2];exact⟨rfl,rfl⟩
 |Gd b p i sz j=>exact AKS h.1
 |KB s r y j=>obtain⟨bb,o,cs,rfl,_⟩:=h;exact⟨rfl,rfl⟩
 |fn f G6=>rw[h.2];exact⟨rfl,rfl⟩
 |gf f rows=>obtain⟨ps,rfl,_⟩:=h;exact⟨rfl,rfl⟩
 |mT=>simp only[VR]at h;subst h;exact⟨rfl,rfl⟩
 |undef=>simp[AV.known]at hk
theorem nX{E:Env}{w:World}{vw:List Bx}:∀{l:List AV} {vs:List Value},YM E w vw l vs→l.all AV.known=true→ ∀v∈vs,v.oneCell' =true
 |[],[],_,_=>by simp
 |x::l,v::vs,h,hk=>by
  simp only[ALp,AHN]at hk;intro u hu;rcases AI5.1 hu with rfl|hu
  ·exact(iY h.1 hk.1).1
  ·exact nX h.2 hk.2 u hu
theorem fK{E:Env}{w:World}{vw:List Bx}{x:XV}{v:Value}(h:XR E w vw x v)(hk:x.cells.all AV.known=true)(hn:x.cells≠[]):YM E w vw x.cells v.cells.toList∧ ∀u∈v.cells.toList,u.oneCell' =true:=by
 cases x with
 |c x=>
  have h':VR E w vw x v:=h;obtain⟨h1,h2⟩:=iY h' (by simpa[XV.cells]using hk);rw[h2];exact⟨⟨h',trivial⟩,by simpa using h1⟩
 |agg l=>
  obtain⟨vs,rfl,RI⟩:=h;exact⟨RI,nX RI hk⟩
 |Ju l=>simp[XV.cells]at hn
theorem kp{w:World}{vw:List Bx}{r:Ty}{E:Env}{bx:List Bx}{G:AAz}{d:Nat}{x:XV}{v:Value}{y:r.D}{Ls:List Bx}{d':Nat}(h:CD E w vw bx G)(hw:DU bx vw)(hd:1≤d)
  (hv:XR E w vw x v) (e:rU d r x bx=some (y,Ls,d')):1≤d'∧d'≤d∧ ∃E' F,Ep E w vw bx G E' Ls F∧Ow w E'.S (d'-1) r v.cells.toList y F:=by
 unfold rU at e;split at e
 ·rename_i l
  obtain⟨vs,rfl,RI⟩:=hv;exact TO h hw hd RI e
 ·rename_i x
  have VM:VR E w vw x v:=hv;have hk:x.known=true:=by cases x<;>simp_all[AV.known,V9]
  rw[(iY VM hk).2];exact Un h hw hd VM e
 ·cases e
end Go.Fw
end
section
namespace Go.Fw
def Env.UR(E:Env)(n:Nat)(h:Value):Env:={ E with Ft:=fun k=>if k=n then h else E.Ft k }
def Env.Wm(E:Env)(n b:Nat):Env:={ E with Ff:=fun k=>if k=n then b else E.Ff k }
theorem YD{E E1 E':Env}{w w':World}{vw Yi Ls:List Bx}{F:AAz}(k:Ep E w vw vw [] E1 Yi F)(st:∀c,E.S c→E.T c)(hlen:vw.length≤Ls.length)
  (YO:∀b B,b<vw.length→Ls[b]? =some B→Yi[b]? =some B) (iN:∀b,b<vw.length→E'.Ff b=E1.Ff b) (WB:∀b,b<vw.length→E'.Ft b=E1.Ft b) (hT:E'.T=E1.T) (hS:E'.S=E1.S)
  (hw:∀c,c<w.heap.size→c∉F→w'.heap[c]? =w.heap[c]?):Np E w vw E' w' Ls:=by
 have hB:=k.boxes;obtain⟨Fs,⟨h1,h2⟩,h3⟩:=hB;simp only[AIs]at h3;have uK:∀c,E1.T c→w'.heap[c]? =w.heap[c]?:=fun c hc=>hw c (h3.XS c hc) fun hf=>h3.free c (by simp[hf]) hc
 refine⟨hlen,fun b hb=>by rw[iN b hb,k.le.Ff],fun c hc=>by rw[hT];exact k.le.T c hc,fun c hc=>by rw[hS];exact k.le.S c hc,st,fun c hc=>uK c (k.le.T c hc),fun b d r rows hb e=> ?_⟩;have e1:=YO b _ hb e;rcases k.within b _ e1 with e2|e2
 ·cases e2
 ·refine⟨d,rows,e2,fun p hp q ys hg=>⟨hp,⟨ys,hg,rfl⟩,fun h' hh=> ?_⟩⟩
  have hF:Fs[b]? =some (Fs[b]'(by have:=(AG0.1 e1).1;omega)):=AG7 _;obtain⟨hd,ho⟩:=h2 b _ _ e1 hF;rw[WB b hb];rw[←k.le.Ft]at hh;refine jE ho (fun c hc=>uK c (h3.st c hc)) (fun c hc=> ?_) hp hg hh;have Wn:c∈Fs.flatten:=AJB.2 ⟨_,AIv hF,hc⟩;exact hw c (h3.lt c (by simp[Wn])) fun hf=>(AIJ.1 h3.nodup).2.2 c Wn c hf rfl
structure Grown (w w':World):Prop where
 os:w'.os=w.os
 tape:w'.tape=w.tape
 output:w'.output=w.output
 size:w.heap.size≤w'.heap.size
theorem OG{E E1:Env}{σ:St}{a:Act}{w w':World}{Yi:List Bx}{F F':AAz}(h:Rel E σ a w)(k:Ep E w σ.bx σ.bx [] E1 Yi F){v:Value}{d:Nat}{r:Ty}{rows:List r.D}(hd:1≤d)
  (ho:Ow w' E1.S d (.sl r) [v] rows F') (hF':∀c∈F',c∈F∨w.heap.size≤c) (nd:F'.Nodup) (Dl:∀c∈F',c<w'.heap.size) (hw:∀c,c<w.heap.size→c∉F→w'.heap[c]? =w.heap[c]?) (g:Grown w w'):
  let E':=E1.UR Yi.length v
  Rel E' { σ with bx:=Yi++[.sl d r rows] } a w'∧Mb [] E σ.bx w E' (Yi++[.sl d r rows]) w'∧XR E' w' (Yi++[.sl d r rows]) (.c (.ref Yi.length [])) v:=by
 intro E';have st:=h.bx.st;have hn:=k.len;have keep:Np E w σ.bx E' w' (Yi++[.sl d r rows]):=YD k st (by simp[hn]) (fun b B hb e=>by
   rw[AHR (by omega)]at e;exact e) (fun b _=>rfl) (fun b hb=>by simp[E',Env.UR];intro e;omega) rfl rfl hw
 have j0:Np E1 w σ.bx E' w' (Yi++[.sl d r rows]):=by
  have k':Ep E1 w σ.bx σ.bx [] E1 Yi F:=⟨Le.refl _,k.len,k.within,k.boxes⟩;exact YD k' k.boxes.st (by simp[hn]) (fun b B hb e=>by
   rw[AHR (by omega)]at e;exact e) (fun b _=>rfl) (fun b hb=>by simp[E',Env.UR];intro e;omega) rfl rfl hw
 obtain⟨Fs,⟨h1,h2⟩,h3⟩:=k.boxes;simp only[AIs]at h3;have uK:∀c,E1.T c→w'.heap[c]? =w.heap[c]?:=fun c hc=>hw c (h3.XS c hc) fun hf=>h3.free c (by simp[hf]) hc
 have hF0:∀c∈Fs.flatten,w'.heap[c]? =w.heap[c]?:=fun c hc=>hw c (h3.lt c (by simp[hc])) fun hf=>(AIJ.1 h3.nodup).2.2 c hc c hf rfl
 refine⟨⟨h.Jo,h.tm.imp fun _ _ hx=>Kt keep hx,?_⟩,?_,?_⟩
 ·refine⟨Fs++[F'],⟨by simp[h1],fun n B G hB hG=> ?_⟩,?_⟩
  ·by_cases jd:n<Yi.length
   ·rw[AHR jd]at hB
    rw[AHR (by omega)]at hG;have:=h2 n B G hB hG;have hGw:∀c∈G,w'.heap[c]? =w.heap[c]?:=fun c hc=>hF0 c (AJB.2 ⟨G,AIv hG,hc⟩)
    cases B with
    |mem cs=>
     obtain⟨rfl,arr,ty,fr,a1,a2,a3⟩:=this;exact⟨rfl,arr,ty,fr,(hGw (E1.Ff n) (by simp)).trans a1,a2,a3.imp fun _ _ hv=>EB j0 hv⟩
    |sl d0 r0 MA=>
     refine⟨this.1,?_⟩;have e0:E'.Ft n=E1.Ft n:=by simp[E',Env.UR];intro e;omega
     rw[e0];exact Cr (fun _ hc=>hc) (fun c hc=>uK c (h3.st c hc)) hGw this.2
    |dead=>exact this
   ·have nT:=(AG0.1 hB).1
    simp at nT;obtain rfl:n=Yi.length:=by omega
    rw[AIw (by omega)]at hB hG;simp[h1]at hB hG;subst hB hG;refine⟨hd,?_⟩;have e0:E'.Ft Yi.length=v:=by simp[E',Env.UR]
    rw[e0];exact ho
  ·simp only[AKl,AJn,AME,AIs]
   have nd0:=AIJ.1 h3.nodup;refine⟨AIJ.2 ⟨nd0.1,nd,fun x hx y hy e=> ?_⟩,fun c hc ht=> ?_,fun c hc=> ?_,h3.st,fun c hc=>AJW (h3.XS c hc) g.size⟩
   ·subst e
    rcases hF' x hy with h|h
    ·exact nd0.2.2 x hx x h rfl
    ·have:=h3.lt x (by simp[hx]);omega
   ·rcases AIf.1 hc with hc|hc
    ·exact h3.free c (by simp[hc]) ht
    ·rcases hF' c hc with h|h
     ·exact h3.free c (by simp[h]) ht
     ·have:=h3.XS c ht;omega
   ·rcases AIf.1 hc with hc|hc
    ·exact AJW (h3.lt c (by simp[hc])) g.size
    ·exact Dl c hc
 ·refine⟨⟨k.le.T,k.le.S,k.le.zM,k.le.nc,fun c hc=>uK c (k.le.T c hc),g.os,g.tape,g.output,g.size⟩,by simp[hn],fun b hb=>⟨by show E1.Ff b=_;rw[k.le.Ff],?_⟩,fun b hb=> ?_,fun n B B' _ hB Md nK=> ?_⟩
  ·have:E'.Ft b=E1.Ft b:=by simp[E',Env.UR];intro e;omega
   rw[this,k.le.Ft]
  ·have lQ:=(AG0.1 hb).1
   rw[AHR (by omega)];obtain⟨B,hB⟩:∃B,Yi[b]? =some B:=⟨_,AG7 (by omega)⟩;rcases k.within b B hB with e|e
   ·rw[hB,e]
   ·rw[hb]at e;rw[hB];exact e.symm
  ·have jd:=(AG0.1 hB).1
   rw[AHR (by omega)]at Md;rcases k.within n B' Md with e|e
   ·exact absurd e nK
   rw[hB]at e;cases e;refine⟨Pg.refl nK,fun c hc=> ?_⟩;have hF:Fs[n]? =some (Fs[n]'(by have:=(AG0.1 Md).1;omega)):=AG7 _;have hR:=h2 n B _ Md hF;have XI:lS E1 w n B c:=by
    cases B with
    |mem cs=>simp only[lS]at hc⊢;rw[k.le.Ff];exact hc
    |sl d r rows=>simp only[lS]at hc⊢;rw[k.le.Ft];exact hc
    |dead=>exact hc
   rcases Wj hR XI with hs|hs
   ·exact uK c (h3.st c hs)
   ·exact hF0 c (AJB.2 ⟨_,AIv hF,hs⟩)
 ·have e0:E'.Ft Yi.length=v:=by simp[E',Env.UR]
  refine⟨?_,?_⟩
  ·have:=SV ho
   simp only[Rd]at this;obtain⟨_,_,e,_⟩:=this;simp only[AJD,AKa]at e;rw[e];rfl
  ·have:(Yi++[Bx.sl d r rows])[Yi.length]? =some (.sl d r rows):=by simp
   rw[this];exact⟨by simp[CI],⟨_,rfl⟩,by rw[e0,B6]⟩
theorem cr{E:Env}{σ:St}{a:Act}{w:World}(h:Rel E σ a w){cs:List AV}{arr:Array Value}(ty:TypeId)(hv:YM E w σ.bx cs arr.toList):
  let E':=E.Wm σ.bx.length w.heap.size
  let w':=w.alloc (.cells arr ty)
  Rel E' (σ.new (.mem cs)) a w'∧Mb [] E σ.bx w E' (σ.new (.mem cs)).bx w'∧XR E' w' (σ.new (.mem cs)).bx (.c (.FY σ.bx.length 0)) (.pointer (some ⟨w.heap.size,0,none⟩)):=by
 intro E' w';have st:=h.bx.st;have hw:∀c,c<w.heap.size→c∉([]:AAz)→w'.heap[c]? =w.heap[c]?:=fun c hc _=>by
  show(w.heap.push (.cells arr ty))[c]? =_
  rw[Array.getElem?_push,AHA (by omega)]
 have hB0:=h.bx;have keep:Np E w σ.bx E' w' (σ.bx++[.mem cs]):=YD (Ep.refl hB0) st (by simp) (fun b B hb e=>by
   rw[AHR (by omega)]at e;exact e) (fun b hb=>by simp[E',Env.Wm];intro e;omega) (fun b _=>rfl) rfl rfl hw
 obtain⟨Fs,⟨h1,h2⟩,h3⟩:=h.bx;simp only[AIs]at h3;have new:w'.heap[w.heap.size]? =some (.cells arr ty):=by
  show(w.heap.push (.cells arr ty))[w.heap.size]? =_
  simp
 refine⟨⟨h.Jo,h.tm.imp fun _ _ hx=>Kt keep hx,?_⟩,?_,?_⟩
 ·refine⟨Fs++[[w.heap.size]],⟨by simp[St.new,h1],fun n B G hB hG=> ?_⟩,?_⟩
  ·simp only[St.new]at hB
   by_cases jd:n<σ.bx.length
   ·rw[AHR jd]at hB
    rw[AHR (by omega)]at hG;have:=h2 n B G hB hG;have hGw:∀c∈G,w'.heap[c]? =w.heap[c]?:=fun c hc=>hw c (h3.lt c (by simp;exact⟨G,AIv hG,hc⟩)) (by simp)
    have eb:E'.Ff n=E.Ff n:=by simp[E',Env.Wm];intro e;omega
    cases B with
    |mem cs0=>
     obtain⟨rfl,arr0,ty0,fr,a1,a2,a3⟩:=this;refine⟨by rw[eb],arr0,ty0,fr,?_,a2,a3.imp fun _ _ hv=>EB keep hv⟩;rw[eb];exact(hGw (E.Ff n) (by simp)).trans a1
    |sl d0 r0 MA=>exact⟨this.1,Cr (fun _ hc=>hc) (fun c hc=>hw c (h3.XS c (st c hc)) (by simp)) hGw this.2⟩
    |dead=>exact this
   ·have nT:=(AG0.1 hB).1
    simp at nT;obtain rfl:n=σ.bx.length:=by omega
    rw[AIw (by omega)]at hB hG;simp[h1]at hB hG;subst hB hG;have eb:E'.Ff σ.bx.length=w.heap.size:=by simp[E',Env.Wm]
    refine⟨by rw[eb],arr,ty,(0,0),by rw[eb];exact new,fun i _ h=>by omega,hv.imp fun _ _ hv=>EB keep hv⟩
  ·simp only[AKl,AJn,AME,AIs]
   refine⟨AIJ.2 ⟨h3.nodup,by simp,fun x hx y hy e=> ?_⟩,fun c hc ht=> ?_,fun c hc=> ?_,h3.st,fun c hc=> ?_⟩
   ·subst e
    simp at hy;have:=h3.lt x hx;omega
   ·rcases AIf.1 hc with hc|hc
    ·exact h3.free c hc ht
    ·simp at hc;have:=h3.XS c ht;omega
   ·rcases AIf.1 hc with hc|hc
    ·have:=h3.lt c hc;simp[w'];omega
    ·simp at hc;simp[w'];omega
   ·have:=h3.XS c hc;simp[w'];omega
 ·refine⟨⟨fun _ h=>h,fun _ h=>h,fun _ h=> .inl h,fun _ h=> .inl h,fun c hc=>hw c (h3.XS c hc) (by simp),rfl,rfl,rfl,by simp[w']⟩,by simp[St.new],fun b hb=>⟨?_,rfl⟩,fun b hb=> ?_,fun n B B' _ hB Md nK=> ?_⟩
  ·simp[E',Env.Wm];intro e;omega
  ·have lQ:=(AG0.1 hb).1
   simp only[St.new];rw[AHR lQ];exact hb
  ·have jd:=(AG0.1 hB).1
   simp only[St.new]at Md;rw[AHR jd,hB]at Md;cases Md;refine⟨Pg.refl nK,fun c hc=> ?_⟩;have hF:Fs[n]? =some (Fs[n]'(by omega)):=AG7 _;rcases Wj (h2 n B _ hB hF) hc with hs|hs
   ·exact hw c (h3.XS c (st c hs)) (by simp)
   ·exact hw c (h3.lt c (AJB.2 ⟨_,AIv hF,hs⟩)) (by simp)
 ·refine⟨by simp[St.new],?_⟩
  simp[E',Env.Wm]
end Go.Fw
end
section
namespace Go.Fw
theorem HG:∀r:Ty,(ED r).length=r.n
 | .cons c r=>by simp[ED,Ty.n,HG r]
 | .unit=>rfl
 | .int _=>rfl
 | .bool=>rfl
 | .str=>rfl
 | .sl _=>rfl
theorem UF{E:Env}{w:World}{vw:List Bx}(t:Ty):VR E w vw (l9 t) (zv t):=by
 cases t<;>first
  |exact VR.int _ _
  |exact VR.bool _
  |exact VR.str _
  |rfl
  |trivial
theorem SH{E:Env}{w:World}{vw:List Bx}:∀r:Ty,YM E w vw (U6 r) (ED r)
 | .cons c r=>⟨UF c,SH r⟩
 | .unit=>trivial
 | .int k=>⟨UF (.int k),trivial⟩
 | .bool=>⟨UF .bool,trivial⟩
 | .str=>⟨UF .str,trivial⟩
 | .sl r=>⟨UF (.sl r),trivial⟩
theorem Yq{w:World}{S:Nat→Prop}{d:Nat}:∀{r:Ty},r.iW=true→Ow w S d r (ED r) r.z []
 | .cons c r,h=>by
  simp only[Ty.iW,AHN]at h;simp only[Ow,ED];refine⟨_,_,[],[],rfl,rfl,?_,Yq h.2⟩;cases c with
  |sl q=>exact cp
  |int k=>simp[Ow,zv,Ty.z]
  |bool=>simp[Ow,zv,Ty.z]
  |str=>simp[Ow,zv,Ty.z]
  |unit=>simp[Ty.cell]at h
  |cons _ _=>simp[Ty.cell]at h
 | .unit,_=>by simp[Ow,ED]
 | .int k,_=>by simp[Ow,ED,zv,Ty.z]
 | .bool,_=>by simp[Ow,ED,zv,Ty.z]
 | .str,_=>by simp[Ow,ED,zv,Ty.z]
 | .sl q,_=>cp
theorem WN{n:Nat}:∀{css:List (List Value)} {ex:List Value} {i j:Nat} {cs:List Value},(∀c∈css,c.length=n)→css[i]? =some cs→j<n→(css.flatten++ex)[i*n+j]? =cs[j]?
 |[],_,_,_,_,_,h,_=>by simp at h
 |c::css,ex,0,j,cs,hl,h,hj=>by
  simp at h;subst h;have:=hl c (by simp);simp only[AJn,AHH,Nat.zero_mul,AKi];rw[AHR (by omega)]
 |c::css,ex,i+1,j,cs,hl,h,hj=>by
  have hc:=hl c (by simp);have ih:=WN (css:=css) (ex:=ex) (i:=i) (j:=j) (cs:=cs) (fun c' XI=>hl c' (ALo _ XI)) (by simpa using h) hj;simp only[AJn,AHH];rw[AIw (by rw[AKk];omega),←ih];congr 1;rw[AKk,hc];omega
theorem cD{w:World}{b:Nat}{arr:Array Value}{ty:TypeId}{fr:ABR}(hb:w.heap[b]? =some (.cells arr ty fr)){n:Nat}{css:List (List Value)}{ex:List Value}(ha:arr.toList=css.flatten++ex)
  (hl:∀c∈css,c.length=n) {i:Nat} {cs:List Value} (h:css[i]? =some cs):Bp w b (i*n) cs:=by
 intro j v hj;have hjn:j<n:=by
  have:=(AG0.1 hj).1;rw[hl cs (AIv h)]at this;exact this
 simp only[World.cell?,hb,AK0,AIB,AJU];rw[←Array.getElem?_toList,ha,WN hl h hjn,hj]
theorem ZJ{w:World}{S:Nat→Prop}{d b cap:Nat}{r:Ty}{rows:List r.D}{arr:Array Value}{ty:TypeId}{fr:ABR}(hb:w.heap[b]? =some (.cells arr ty fr)){css:List (List Value)}{ex:List Value}
  (ha:arr.toList=css.flatten++ex) (hc:css.length=rows.length) (rD:rows.length≤cap) (LJ:cap*r.n≤arr.size) (hu:mG fr (arr.size+mk r)) {Fs:List AAz} (hF:Fs.length=rows.length)
  (VI:∀(i:Nat) cs y G,css[i]? =some cs→rows[i]? =some y→Fs[i]? =some G→Ow w S d r cs y G):
  Ow w S (d+1) (.sl r) [.slice (some ⟨b,0,none⟩) rows.length cap] rows (b::Fs.flatten):=by
 have hl:∀c∈css,c.length=r.n:=by
  intro c XI;obtain⟨i,hi,rfl⟩:=AKN XI;exact RM (VI i _ _ _ (AG7 hi) (AG7 (by omega)) (AG7 (by omega)))
 simp only[Ow];refine⟨_,cap,rfl,rD,.inr ⟨b,0,arr,ty,fr,Fs,rfl,hb,by omega,hu,rfl,hF,fun i y G hy hG=> ?_⟩⟩;have hi:i<css.length:=by
  have:=(AG0.1 hy).1;omega
 refine⟨css[i],hl _ (AIu hi),?_,VI i _ y G (AG7 hi) hy hG⟩;rw[AKi];exact cD hb ha hl (AG7 hi)
theorem Zn(n:Nat):mG (0,0) n:=fun i _ h=>by omega
theorem LR{w:World}{o:Obj}{c:Nat}(h:c<w.heap.size):(w.heap.push o)[c]? =w.heap[c]?:=by
 rw[Array.getElem?_push,AHA (by omega)]
section
variable{Y:Type} {P:Program} {T:G8} (hT:Dd P T) {o:Oper} {E:Env} {σ:St} {a:Act} {w:World} {k:K Y} {y:Y}
theorem rV(h:Rel E σ a w){t:TypeId}{x:Operand}(ho:o.op= .box t x)(hk:(σ.ev x).cells.all AV.known=true)(hn:(σ.ev x).cells≠[])(e:k (.c (.FY σ.bx.length 0)) (σ.new (.mem (σ.ev x).cells))=some y):
  H6 P o E σ a w k y:=by
 obtain⟨h1,h2⟩:=fK (h.ev x) hk hn;obtain⟨r1,r2,r3⟩:=cr h t h1;refine⟨_,_,_,_,_,.inl ?_,r1,r3,r2.any,rfl,e⟩;simp only[execOp,ho,Instr.box,newVar,newRow,Sem.run_bind,run_newObj,Result.andThen_ok,Sem.run_pure];rfl
include hT
theorem row_zero{t:Nat}{r:Ty}(e:T.Yt t=some r):∃i z,P.info? t=some i∧i.zero=some z∧z.cells.toList=ED r∧r.iW=true:=by
 unfold G8.Yt at e;split at e
 ·rename_i ti Mv
  obtain⟨i,h1,_,_,h2⟩:=(hT t ti Mv).info;obtain⟨hg,z,h3,h4⟩:=h2 r e;exact⟨i,z,h1,h3,h4,hg⟩
 ·cases e
theorem mg(h:Rel E σ a w){t:TypeId}(ho:o.op= .alloc t){r:Ty}(hr:T.Yt t=some r)(e:k (.c (.FY σ.bx.length 0)) (σ.new (.mem (U6 r)))=some y):H6 P o E σ a w k y:=by
 obtain⟨i,z,h1,h2,h3,_⟩:=row_zero hT hr;obtain⟨r1,r2,r3⟩:=cr (arr:=z.cells) h t (by rw[h3];exact SH r);refine⟨_,_,_,_,_,.inl ?_,r1,r3,r2.any,rfl,e⟩;simp only[execOp,ho,Instr.alloc,zeroValue,typeInfo,newVar,newRow,Sem.run_bind,run_program,Result.andThen_ok,h1,h2,run_newObj,Sem.run_pure];rfl
end
end Go.Fw
end
section
namespace Go.Fw
def D5(arr:Array Value):Nat→List Value→Array Value
 |_,[]=>arr
 |o,c::l=>D5 (arr.setIfInBounds o c) (o+1) l
theorem Ho:∀(l:List Value) (o:Nat) (arr:Array Value),(D5 arr o l).size=arr.size
 |[],_,_=>rfl
 |c::l,o,arr=>by simp[D5,Ho l]
theorem fL(off:Nat):∀(l:List Value) (k:Nat) (arr:Array Value),(l.zipIdx k).foldl (fun cs (q:Value×Nat)=>cs.setIfInBounds (off+q.2) q.1) arr=D5 arr (off+k) l
 |[],_,_=>rfl
 |c::l,k,arr=>by
  simp only[List.zipIdx_cons,List.foldl_cons,D5];rw[fL off l (k+1)];rfl
theorem Qx{E:Env}{w:World}{vw:List Bx}:∀{xs:List AV} {vs:List Value} {cs VN:List AV} {arr:Array Value} {o:Nat},YM E w vw cs arr.toList→YM E w vw xs vs→Rg cs o xs=some VN→
  YM E w vw VN (D5 arr o vs).toList∧o+xs.length≤cs.length∨(xs=[]∧VN=cs)
 |[],[],cs,VN,arr,o,h,_,e=>by simp only[Rg,AG9]at e;exact .inr ⟨rfl,e.symm⟩
 |x::xs,v::vs,cs,VN,arr,o,h,hx,e=>by
  simp only[Rg]at e;split at e
  case isFalse=>cases e
  rename_i ho;have h1:YM E w vw (cs.set o x) (arr.setIfInBounds o v).toList:=by
   rw[Array.toList_setIfInBounds];exact Bi.set h hx.1
  rcases Qx h1 hx.2 e with⟨h2,h3⟩|⟨rfl,rfl⟩
  ·refine .inl ⟨h2,?_⟩
   simp at h3⊢;omega
  ·cases vs with
   |nil=>exact .inl ⟨h1,by simp;omega⟩
   |cons _ _=>exact hx.2.elim
 |[],_::_,_,_,_,_,_,hx,_=>hx.elim
 |_::_,[],_,_,_,_,_,hx,_=>hx.elim
section
variable{Y:Type} {P:Program} {T:G8} (hT:Dd P T) {o:Oper} {E:Env} {σ:St} {a:Act} {w:World} {k:K Y} {y:Y}
def mP(E:Env)(w:World)(vw:List Bx)(l:List (Nat×XV))(m:List (Nat×Value)):Prop:=Bi (fun x v=>x.1=v.1∧XR E w vw x.2 v.2) l m
theorem dD(h:Rel E σ a w)(ps:Array (Nat×Operand)):mP E w σ.bx (ps.toList.map fun q=>(q.1,σ.ev q.2)) (ps.map fun(i,x)=>(i,a.eval x)).toList:=by
 rw[Array.toList_map]
 generalize ps.toList=l
 induction l with
 |nil=>trivial
 |cons q l ih=>exact⟨⟨rfl,h.ev q.2⟩,ih⟩
theorem gg{place:Nat→Option ABR}{i off size:Nat}(hp:place i=some (off,size)){cells:Array Value}{v:Value}{rest:List (Nat×Value)}(h1:v.cells.size=size)(h2:off+v.cells.size≤cells.size):
  Instr.fill place cells ((i,v)::rest)=Instr.fill place (D5 cells off v.cells.toList) rest:=by
 have e:v.cells.zipIdx.foldl (fun cs (q:Value×Nat)=>cs.setIfInBounds (off+q.2) q.1) cells=D5 cells off v.cells.toList:=by
  rw[←Array.foldl_toList];have:(v.cells.zipIdx).toList=v.cells.toList.zipIdx:=by simp
  rw[this];exact fL off v.cells.toList 0 cells
 conv=>lhs;unfold Instr.fill
 simp only[hp];rw[AHA (by simp;omega)];exact congrArg (fun c=>Instr.fill place c rest) e
theorem eP{α β:Type}{f:α→Option β}{g:α→β}:∀{l:List α},(∀x∈l,f x=some (g x))→l.mapM f=some (l.map g)
 |[],_=>rfl
 |x::l,h=>by
  simp only[AMV,h x (by simp),eP (l:=l) (g:=g) (fun y hy=>h y (by simp[hy]))];rfl
include hT
theorem Uq{fs:List ABR}{vw:List Bx}:∀{parts:List (Nat×XV)} {vals:List (Nat×Value)} {cs VN:List AV} {arr:Array Value},mP E w vw parts vals→YM E w vw cs arr.toList→YC T fs cs parts=some VN→
  ∃Jd:Array Value,Instr.fill (fun i=>(fs[i]?).bind fun q=>((P.info? q.2).map fun i=>(q.1,i.size))) arr vals=some Jd∧YM E w vw VN Jd.toList
 |[],[],cs,VN,arr,_,h,e=>by
  simp only[YC,AG9]at e;subst e;exact⟨arr,rfl,h⟩
 |(i,x)::ps,(j,v)::vs,cs,VN,arr,hp,h,e=>by
  obtain⟨⟨tE,hx⟩,hp⟩:=hp;simp only at tE hx;subst tE;simp only[YC]at e;split at e
  case h_2=>cases e
  rename_i off u hf;split at e
  case h_2=>cases e
  rename_i ti Mv;split at e
  case isFalse=>cases e
  rename_i hc;obtain⟨c1,c2,c3⟩:=hc;simp only[AHL]at e;obtain⟨cs1,e1,e2⟩:=e;have YT:x.cells≠[]:=by intro h0;rw[h0]at c1;simp at c1;omega
  obtain⟨x1,x2⟩:=fK hx c3 YT;rcases Qx h x1 e1 with⟨s1,s2⟩|⟨s1,_⟩
  ·have LJ:v.cells.size=ti.size:=by
    have:=x1.len;rw[←c1,this];simp
   have hlen:=h.len;obtain⟨Jd,f1,f2⟩:=Uq hp s1 e2;refine⟨Jd,?_,f2⟩;have ADU:(fun i=>(fs[i]?).bind fun q=>((P.info? q.2).map fun i=>(q.1,i.size))) i=some (off,ti.size):=by
    have:=Dd.size hT Mv;cases hq:P.info? u with
    |none=>simp[hq]at this
    |some iu=>simp[hq]at this;simp[hf,hq,this]
   rw[gg (i:=i) (off:=off) (size:=ti.size) ADU LJ (by simp at hlen;omega)];exact f1
  ·exact absurd s1 YT
 |[],_::_,_,_,_,hp,_,_=>hp.elim
 |_::_,[],_,_,_,hp,_,_=>hp.elim
theorem mD(h:Rel E σ a w){t:TypeId}{ps:Array (Nat×Operand)}(ho:o.op= .build t ps){s b:Nat}{fs:List ABR}{rw:Option Ty}(Mv:T.get t=some ⟨s,b,.st fs,rw⟩){r:Ty}(hr:T.Yt t=some r)
  {cs:List AV} (hb:YC T fs (U6 r) (ps.toList.map fun q=>(q.1,σ.ev q.2))=some cs) (e:k (.agg cs) σ=some y):H6 P o E σ a w k y:=by
 obtain⟨i,z,h1,h2,h3,_⟩:=row_zero hT hr;obtain⟨fields,hu,hfs,LJ⟩:=vH hT Mv;obtain⟨Jd,f1,f2⟩:=Uq hT (dD h ps) (arr:=z.cells) (by rw[h3];exact SH r) hb;refine H6.same h (v:= .agg Jd) (x:= .agg cs) ?_ ⟨Jd,rfl,f2⟩ e
 have hb:P.built t (ps.map fun(i,x)=>(i,a.eval x)).toList=some Jd:=by
  unfold Program.built;simp only[h1,hu,h2];have hm:fields.toList.mapM (fun f=>(P.info? f.type).map fun i=>(f.offset,i.size))=some (fields.toList.map fun f=>(f.offset,((P.info? f.type).map (·.size)).getD 0)):=by
   refine eP fun f hf=> ?_
   obtain⟨i',DW,_⟩:=LJ f hf;simp[DW]
  simp only[hm];rw[←f1];congr 1;funext n;subst hfs;simp only[List.getElem?_toArray,AJG];cases hn:fields.toList[n]? with
  |none=>simp
  |some f=>
   obtain⟨i',DW,_⟩:=LJ f (AIv hn);simp[DW]
 have:=run_build (P:=P) w t (ps.map fun(i,x)=>(i,a.eval x)) Jd hb;simp only[execOp,ho,Sem.run_bind,this,Result.andThen_ok,Sem.run_pure]
end
end Go.Fw
end
section
namespace Go.Fw
theorem wrap_small{n:Int}(h0:0≤n)(h1:n≤(DH:Int)):IntKind.i64.wrap n=n:=by
 simp only[DH]at h1;unfold IntKind.wrap;simp only[IntKind.bits,IntKind.signed];have e:n%(2^64:Int)=n:=Int.emod_eq_of_lt h0 (by omega);simp only[e];rw[AHA (by simp;omega)]
theorem DY{m:Nat}{zl:List Value}:((List.replicate m zl).flatten).length=m*zl.length:=by
 induction m with
 |zero=>simp
 |succ m ih=>simp only[AL5,AJn,AIj,ih,AML];omega
theorem Je{zl:List Value}:∀{m i:Nat},i<m*zl.length→((List.replicate m zl).flatten)[i]? =zl[i%zl.length]?
 |0,i,h=>by simp at h
 |m+1,i,h=>by
  simp only[AL5,AJn];by_cases hi:i<zl.length
  ·rw[AHR hi,AMM hi]
  ·have DW:zl.length≤i:=by omega
   rw[AIw DW,Je (by rw[AML]at h;omega),←Nat.mod_eq_sub_mod DW]
theorem Ut{zero:Array Value}{zl:List Value}(hz:zero.toList=zl)(m:Nat)(h0:zl≠[]):((Array.range (m*zl.length)).map (fun i=>zero[i%zero.size]!)).toList=(List.replicate m zl).flatten:=by
 have hs:zero.size=zl.length:=by rw[←hz];simp
 have ADG:0<zl.length:=AMQ.2 h0;apply ALy;intro i;by_cases hi:i<m*zl.length
 ·rw[Je hi]
  have AGY:i%zl.length<zl.length:=Nat.mod_lt _ ADG;simp only[Array.toList_map,Array.toList_range,AJG,List.getElem?_range hi,Option.map_some,hs];rw[AG7 AGY];congr 1;subst hz;have UL:i%zero.size<zero.size:=by rw[hs];exact AGY
  simp[UL,←hs]
 ·have h1:((Array.range (m*zl.length)).map (fun i=>zero[i%zero.size]!)).toList.length≤i:=by simp;omega
  rw[AK5 h1,AK5 (by rw[DY];omega)]
section
variable{Y:Type} {P:Program} {T:G8} (hT:Dd P T) {o:Oper} {E:Env} {σ:St} {a:Act} {w:World} {k:K Y} {y:Y}
include hT
theorem Wp{e:Nat}{ti:TI}{r:Ty}(he:T.get e=some ti)(hr:ti.row=some r):∃i z,P.info? e=some i∧i.size=ti.size∧i.bytes=ti.bytes∧i.zero=some z∧z.cells.toList=ED r∧r.iW=true:=by
 obtain⟨i,h1,h2,h3,h4⟩:=(hT e ti he).info;obtain⟨hg,z,h5,h6⟩:=h4 r hr;exact⟨i,z,h1,h2,h3,h5,h6,hg⟩
theorem oX(h:Rel E σ a w){t:TypeId}{l c:Operand}(ho:o.op= .makeSlice t l c)(e:iE T t σ (σ.ev l) (σ.ev c) k=some y):H6 P o E σ a w k y:=by
 unfold iE at e;split at e
 case h_2=>cases e
 rename_i el n m hd hl hc;split at e
 case h_2=>cases e
 rename_i r hr;split at e
 case isFalse=>cases e
 rename_i UK;split at e
 case isFalse=>cases e
 rename_i hb;obtain⟨b0,b1,b2⟩:=hb;obtain⟨el',ti,hu,Mv,hs,hby,hrow⟩:=J2 hT UK;obtain⟨i,z,i1,i2,i3,i4,i5,hg⟩:=Wp hT Mv hrow;obtain⟨κ1,e1⟩:=GA hl (h.ev l);obtain⟨κ2,e2⟩:=GA hc (h.ev c);have w1:=wrap_small b0 (by omega);have w2:=wrap_small (n:=m) (by omega) b2
 let arr:Array Value:=(Array.range (m.toNat*r.n)).map (fun j=>(if m.toNat*r.n=0 then #[]else z.cells)[j%(if m.toNat*r.n=0 then(#[]:Array Value)else z.cells).size]!)
 have Xh:arr.toList=(List.replicate n.toNat (ED r)).flatten++(List.replicate (m.toNat-n.toNat) (ED r)).flatten:=by
  have hz:=HG r;have split:(List.replicate n.toNat (ED r)).flatten++(List.replicate (m.toNat-n.toNat) (ED r)).flatten=(List.replicate m.toNat (ED r)).flatten:=by
   rw[←AKl,List.replicate_append_replicate];congr 2;omega
  rw[split];by_cases h0:m.toNat*r.n=0
  ·have:arr.toList=[]:=by simp[arr,h0]
   rw[this]
   symm
   rw[←ALq,DY,hz,h0]
  ·have YT:ED r≠[]:=by
    intro he;rw[he]at hz;simp at hz;rw[←hz]at h0;simp at h0
   have:=Ut i5 m.toNat YT;rw[hz]at this;simp only[arr,AHA h0];exact this
 let w':=w.alloc (.cells arr el')
 have new:w'.heap[w.heap.size]? =some (.cells arr el'):=by
  show(w.heap.push (.cells arr el'))[w.heap.size]? =_
  simp
 have ABN:arr.size=m.toNat*r.n:=by simp[arr]
 have how:Ow w' E.S (8+1) (.sl r) [.slice (some ⟨w.heap.size,0,none⟩) (List.replicate n.toNat r.z).length m.toNat] (List.replicate n.toNat r.z) (w.heap.size::(List.replicate n.toNat ([]:AAz)).flatten):=by
  refine ZJ new Xh (by simp) (by simp;omega) (by omega) (Zn _) (by simp) fun i cs y G h1 h2 h3=> ?_
  simp only[AL6]at h1 h2 h3;split at h1
  ·rename_i hi
   rw[AG5 hi]at h2 h3;cases h1;cases h2;cases h3;exact Yq hg
  ·cases h1
 have hF:(List.replicate n.toNat ([]:AAz)).flatten=[]:=by simp
 rw[hF]at how;simp only[AK9]at how;obtain⟨r1,r2,r3⟩:=OG h (Ep.refl h.bx) (w':=w') (d:=9) (by omega) how (by simp) (by simp) (by simp[w']) (fun c hc _=>LR hc) ⟨rfl,rfl,rfl,by simp[w']⟩;refine⟨_,_,_,_,_,.inl ?_,r1,r3,r2.any,rfl,e⟩;have AJz:(i.bytes:Int)*m≤2^48:=by
  have h1:(i.bytes:Int)≤512:=by omega
  have h2:(i.bytes:Int)*m≤512*m:=Int.mul_le_mul_of_nonneg_right h1 (by omega);simp only[DH]at b2;omega
 simp only[execOp,ho,Instr.makeSlice,e1,e2,Sem.run_bind,Az hu,Result.andThen_ok,asInt,asIntOf,Sem.run_pure,typeInfo,run_program,i1,w1,w2];rw[AHA (by simp;omega)];by_cases h0:m.toNat*r.n=0
 ·have e3:arr=(Array.range (m.toNat*r.n)).map (fun j=>(#[]:Array Value)[j%(#[]:Array Value).size]!):=by simp only[arr,AG5 h0]
  simp only[Sem.run_bind,run_askRoom,Result.andThen_ok,sizeOf,typeInfo,run_program,i1,Sem.run_pure,i2,hs,h0,AKn,newRow,run_newObj];simp only[w',e3,h0];rfl
 ·have e3:arr=(Array.range (m.toNat*r.n)).map (fun j=>z.cells[j%z.cells.size]!):=by simp only[arr,AHA h0]
  simp only[Sem.run_bind,run_askRoom,Result.andThen_ok,sizeOf,typeInfo,run_program,i1,Sem.run_pure,i2,hs,h0,AJU,newRow,run_newObj,zeroValue,i4];simp only[w',e3];rfl
end
end Go.Fw
end
section
namespace Go.Fw
theorem Yu{w:World}{B S:Nat→Prop}{d:Nat}:∀{r:Ty} {cs:List Value} {x:r.D},r.flat=true→Rd w B r cs x→Ow w S d r cs x []
 | .cons c r,cs,x,h,hr=>by
  simp only[Ty.flat,AHN]at h;simp only[Rd]at hr;obtain⟨v,l,rfl,h1,h2⟩:=hr;simp only[Ow];exact⟨v,l,[],[],rfl,rfl,Yu h.1 h1,Yu h.2 h2⟩
 | .unit,_,_,_,hr=>by simp only[Rd]at hr;simp[Ow,hr]
 | .int k,_,_,_,hr=>by simp only[Rd]at hr;simp[Ow,hr]
 | .bool,_,_,_,hr=>by simp only[Rd]at hr;simp[Ow,hr]
 | .str,_,_,_,hr=>by simp only[Rd]at hr;simp[Ow,hr]
 | .sl q,_,_,h,_=>by simp[Ty.flat]at h
theorem aQ{P:Program}{w:World}{b o:Nat}{cs:List Value}(h:Bp w b o cs):(loadCells ⟨b,o,none⟩ cs.length).run P w= .ok cs.toArray w:=
 run_loadCells_list (P:=P) w ⟨b,o,none⟩ cs fun j v hv=>by rw[Addr.add_eq];exact h j v hv
theorem Q7{P:Program}{w:World}(a:Addr):(loadCells a 0).run P w= .ok #[] w:=by
 simpa using run_loadCells_list (P:=P) w a [] (by simp)
theorem Rs{l:List Value}:(l.map fun v=>[v]).flatten=l:=by
 induction l with
 |nil=>rfl
 |cons a l ih=>simp[ih]
theorem jf{w:World}{B:Nat→Prop}{r:Ty}{b o:Nat}{ys:List r.D}(h:∀(i:Nat) (y:r.D),ys[i]? =some y→ ∃cs,cs.length=r.n∧Bp w b (o+i*r.n) cs∧Rd w B r cs y):
  ∃css:List (List Value),css.length=ys.length∧(∀c∈css,c.length=r.n)∧Bp w b o css.flatten∧ ∀(i:Nat) cs y,css[i]? =some cs→ys[i]? =some y→Rd w B r cs y:=by
 induction ys generalizing o with
 |nil=>exact⟨[],rfl,by simp,fun _ _ h=>by simp at h,fun i cs y h=>by simp at h⟩
 |cons y ys ih=>
  obtain⟨cs,c1,c2,c3⟩:=h 0 y rfl;obtain⟨css,d1,d2,d3,d4⟩:=ih (o:=o+r.n) (fun i z hz=>by
   obtain⟨cs,e1,e2,e3⟩:=h (i+1) z (by simpa using hz);refine⟨cs,e1,?_,e3⟩;rw[AKk,AMH]at e2
   rwa [show o+r.n+i*r.n=o+(i*r.n+r.n)by omega])
  refine⟨cs::css,by simp[d1],by simpa using⟨c1,d2⟩,?_,?_⟩
  ·intro j v hj
   simp only[AJn]at hj;by_cases nS:j<cs.length
   ·rw[AHR nS]at hj
    have:=c2 j v hj;simpa using this
   ·rw[AIw (by omega)]at hj
    have:=d3 _ v hj
    rwa [show o+r.n+(j-cs.length)=o+j by omega]at this
  ·intro i VN z h1 h2
   cases i with
   |zero=>simp at h1 h2;subst h1 h2;exact c3
   |succ i=>exact d4 i VN z (by simpa using h1) (by simpa using h2)
theorem Bp.append{w:World}{b o:Nat}{l m:List Value}(h:Bp w b o l)(k:Bp w b (o+l.length) m):Bp w b o (l++m):=by
 intro j v hj;by_cases nS:j<l.length
 ·rw[AHR nS]at hj
  exact h j v hj
 ·rw[AIw (by omega)]at hj
  have:=k _ v hj
  rwa [show o+l.length+(j-l.length)=o+j by omega]at this
section
variable{Y:Type} {P:Program} {T:G8} (hT:Dd P T) {o:Oper} {E:Env} {σ:St} {a:Act} {w:World} {k:K Y} {y:Y}
theorem GF(hT:Dd P T){t:Nat}{d:TD}(e:(T.get t).map TI.desc=some d):Xe P t d:=by
 simp only[AHF]at e;obtain⟨ti,h1,rfl⟩:=e;exact(hT t ti h1).qz
theorem eg{src dst e:Nat}(hs:P.underlying src=some (.slice e))(he:P.underlying e=some (.int .u8))(hd:P.underlying dst=some .string){x:Value}{l:AAg}{B:Nat→Prop}
  (h:Rd w B (.sl (.int .u8)) [x] l):(convert src dst x).run P w= .ok (.string ⟨(l.map fun n:Int=>UInt8.ofNat n.toNat).toArray⟩) w:=by
 simp only[Rd]at h;obtain⟨a,cap,hx,hle,h⟩:=h;simp only[AJD,AKa]at hx;subst hx;rcases h with h|⟨b,o,rfl,_,h⟩
 ·obtain rfl:=AI6 h
  cases a with
  |none=>exact run_convert_bytes_nil w src e hs he _ _ dst hd
  |some a=>
   rw[run_convert_bytes_string w src dst e _ _ cap hs he hd];have:=_root_.Go.run_bytesToString (P:=P) w a 0 cap [] (by simpa using Q7 (P:=P) (w:=w) a);simp only[AI4]at*;rw[this];rfl
 ·refine run_convert_bytes_arg w src e hs he b o _ cap l rfl (fun i hi=> ?_) dst hd
  obtain⟨cs,c1,c2,c3⟩:=h i _ (AG7 hi);subst c3;have:=c2 0 _ rfl;simp only[Ty.n,Nat.mul_one,ALW]at this;rw[this];simp[List.getD,hi]
include hT in
theorem oZ(h:Rel E σ a w){src dst:Nat}{x:Operand}(ho:o.op= .convert src dst x)(e:gi T src dst σ (σ.ev x) k=some y):H6 P o E σ a w k y:=by
 have hx:=h.ev x;unfold gi at e;split at e
 ·rename_i κ0 κ j n hs hd hv
  have h1:=GF hT hs;have h2:=GF hT hd;rw[hv]at hx;have VM:=Ug (E:=E) (w:=w) (vw:=σ.bx) hx;refine H6.same h (v:= .int κ (κ.wrap n)) (x:= .c (.v (.int κ) (κ.wrap n))) ?_ (VR.int (E:=E) (vw:=σ.bx) _ _) e
  simp only[Xe]at h1 h2;simp only[execOp,ho,VM,convert,Sem.run_bind,Az h1,Az h2,Result.andThen_ok,Conv.intToInt,Sem.run_pure]
 ·rename_i s hs hd hv
  have h1:=GF hT hs;have h2:=GF hT hd;rw[hv]at hx;have VM:=Rn (E:=E) (w:=w) (vw:=σ.bx) hx;refine H6.same h (v:= .string ⟨s.toArray⟩) (x:= .c (.v .str s)) ?_ (VR.str (E:=E) (vw:=σ.bx) _) e
  simp only[Xe]at h1 h2;simp only[execOp,ho,VM,convert,Sem.run_bind,Az h1,Az h2,Result.andThen_ok,Sem.run_pure]
 ·rename_i el s hs hd hv
  have h1:=GF hT hs;have h2:=GF hT hd;rw[hv]at hx;have VM:=Rn (E:=E) (w:=w) (vw:=σ.bx) hx;split at e
  case h_2=>cases e
  rename_i UK;have h3:=GF hT UK;split at e
  case isFalse=>cases e
  rename_i Wt;simp only[Xe]at h1 h2 h3
  let S0:ByteArray:=⟨s.toArray⟩
  have LJ:S0.size=s.length:=by simp[S0,ByteArray.size]
  have fW:=Lib.run_convert_string_bytes (P:=P) w src dst el S0 h1 h2 h3;have rD:s.length≤grownCap w S0.size 0 el:=by rw[LJ];exact grownCap_ge _ _ _ _
  have new:=Lib.bytesWorld_at_new w el S0;have Xh:(Lib.bytesCells w el S0).toList=(s.map fun c=>[Value.int .u8 (c.toNat:Int)]).flatten++List.replicate (grownCap w S0.size 0 el-S0.size) (.int .u8 0):=by
   have:(s.map fun c=>[Value.int .u8 (c.toNat:Int)]).flatten=s.map fun c=>Value.int .u8 (c.toNat:Int):=by
    have:=Rs (l:=s.map fun c=>Value.int .u8 (c.toNat:Int));simpa[AL_,Function.comp_def]using this
   rw[this];simp[Lib.bytesCells,S0]
  have ABN:(Lib.bytesCells w el S0).size=grownCap w S0.size 0 el:=by
   rw[←AL7,Xh];have:((s.map fun c=>[Value.int .u8 (c.toNat:Int)]).flatten).length=s.length:=by
    have:=Rs (l:=s.map fun c=>Value.int .u8 (c.toNat:Int));rw[AL_]at this;have e2:(s.map fun c=>[Value.int .u8 (c.toNat:Int)])=s.map ((fun v=>[v])∘fun c=>Value.int .u8 (c.toNat:Int)):=rfl;rw[e2,this];simp
   rw[AIj,this,AK9];omega
  have how:Ow (Lib.bytesWorld w el S0) E.S (8+1) (.sl (.int .u8)) [.slice (some ⟨w.heap.size,0,none⟩) (s.map fun c=>(c.toNat:Int)).length (grownCap w S0.size 0 el)] (s.map fun c=>(c.toNat:Int))
    (w.heap.size::(List.replicate s.length ([]:AAz)).flatten):=by
   refine ZJ (css:=s.map fun c=>[Value.int .u8 (c.toNat:Int)]) new Xh (by simp) (by simpa using rD) (by simp[Ty.n];omega) (fun i hi hh=>by simp only[mk]at hi;omega) (by simp) fun i cs y G q1 q2 q3=> ?_
   simp only[AJG,AHF]at q1 q2;obtain⟨c1,z1,rfl⟩:=q1;obtain⟨c2,z2,rfl⟩:=q2;rw[z1]at z2;cases z2;have:G=[]:=AKQ (AIv q3);subst this;simp[Ow]
  have hF:(List.replicate s.length ([]:AAz)).flatten=[]:=by simp
  rw[hF]at how;obtain⟨r1,r2,r3⟩:=OG h (Ep.refl h.bx) (w':=Lib.bytesWorld w el S0) (d:=9) (by omega) how (by simp) (by simp) (by simp[Lib.bytesWorld_size]) (fun c hc _=>Lib.bytesWorld_at_old w el S0 c hc)
   ⟨by simp[Lib.bytesWorld,World.freeze]<;>rfl,by simp[Lib.bytesWorld,World.freeze]<;>rfl,by simp[Lib.bytesWorld,World.freeze]<;>rfl,by rw[Lib.bytesWorld_size];omega⟩
  refine⟨_,_,_,_,_,.inl ?_,r1,r3,r2.any,rfl,e⟩;simp only[execOp,ho,VM,Sem.run_bind];have e5:=fW;simp only[S0]at e5;rw[e5];simp only[Result.andThen_ok,Sem.run_pure,AMA];rfl
 ·rename_i el z hs hd hv
  have h1:=GF hT hs;have h2:=GF hT hd;rw[hv]at hx;split at e
  case h_2=>cases e
  rename_i l UK hl;have h3:=GF hT UK;simp only[Xe]at h1 h2 h3;obtain⟨Fs,hB,hS⟩:=h.bx;have Rv:=Oy (DU.refl σ.bx) hB hS.st hx hl;have hr:=eg (P:=P) h1 h3 h2 Rv;refine H6.same h (v:= .string ⟨(l.map fun n:Int=>UInt8.ofNat n.toNat).toArray⟩) (x:= .c (.v .str (l.map fun n:Int=>UInt8.ofNat n.toNat))) ?_ (VR.str (E:=E) (vw:=σ.bx) _) e
  simp only[execOp,ho,Sem.run_bind,hr,Result.andThen_ok,Sem.run_pure]
 ·cases e
end
end Go.Fw
end
section
namespace Go.Fw
theorem VD:∀(l:List Value) (o:Nat) (arr:Array Value) (p q:List Value),p.length=o→(∃m:List Value,m.length=l.length∧arr.toList=p++m++q)→(D5 arr o l).toList=p++l++q
 |[],o,arr,p,q,hp,⟨m,hm,h⟩=>by
  have:m=[]:=AI6 (by simpa using hm);subst this;simpa[D5]using h
 |c::l,o,arr,p,q,hp,⟨m,hm,h⟩=>by
  cases m with
  |nil=>simp at hm
  |cons b m=>
   simp only[D5];have:=VD l (o+1) (arr.setIfInBounds o c) (p++[c]) q (by simp[hp]) ⟨m,by simpa using hm,by
    rw[Array.toList_setIfInBounds,h];subst hp;simp⟩
   rw[this];simp
theorem Ep.more{E E1 E2:Env}{w:World}{vw bx Yi Tb:List Bx}{G F1 F2 A W:AAz}(k1:Ep E w vw bx G E1 Yi F1)(k2:Ep E1 w vw Yi (F1++G) E2 Tb F2)(hp:F1.Perm (A++W)):
  let E3:Env:={ E2 with S:=fun c=>E2.S c∨c∈W,T:=fun c=>E2.T c∨c∈W }
  Ep E w vw bx G E3 Tb (A++F2):=by
 intro E3;have hB:=k2.boxes.perm (G':=(F2++A)++W++G) (by
  rw[AHH F2 A W,AHH F2];exact AI_ _ (AI2 _ hp))
 obtain⟨hle,Qq⟩:=hB.share;exact⟨(k1.le.trans k2.le).trans hle,k2.len.trans k1.len,fun b B hb=>(k2.within b B hb).elim .inl (k1.within b B),Qq.perm (AI2 _ AJA)⟩
theorem TN{w:World}{vw:List Bx}{r:Ty}(hg:r.iW=true):∀{n i:Nat} {parts:List (Nat×XV)} {vals:List (Nat×Value)} {E:Env} {bx:List Bx} {G:AAz} {d:Nat} {rows:List r.D} {Ls:List Bx} {d':Nat},
  CD E w vw bx G→DU bx vw→1≤d→mP E w vw parts vals→Sk r i n parts bx d=some (rows,Ls,d')→1≤d'∧d'≤d∧rows.length=n∧ ∃(E':Env) (Fs:List AAz) (css:List (List Value)),
   Ep E w vw bx G E' Ls Fs.flatten∧css.length=n∧Fs.length=n∧(∀(k:Nat) cs y G,css[k]? =some cs→rows[k]? =some y→Fs[k]? =some G→Ow w E'.S (d'-1) r cs y G)∧
   ∀(pre:List (List Value)) (arr:Array Value),pre.length=i→(∀c∈pre,c.length=r.n)→arr.toList=pre.flatten++(List.replicate n (ED r)).flatten→
    ∃Jd,Instr.fill (fun i=>some (i*r.n,r.n)) arr vals=some Jd∧Jd.toList=pre.flatten++css.flatten
 |0,i,[],[],E,bx,G,d,rows,Ls,d',h,hw,hd,hp,e=>by
  simp only[Sk,AG9,AJH]at e;obtain⟨rfl,rfl,rfl⟩:=e;refine⟨hd,AJI _,rfl,E,[],[],Ep.refl h,rfl,rfl,by simp,fun pre arr _ _ ha=>⟨arr,rfl,by simpa using ha⟩⟩
 |n+1,i,(j,x)::l,(j',v)::m,E,bx,G,d,rows,Ls,d',h,hw,hd,hp,e=>by
  obtain⟨⟨hj,hx⟩,hp⟩:=hp;simp only at hj hx;subst hj;simp only[Sk]at e;split at e
  case isFalse=>cases e
  rename_i tE;subst tE;simp only[AHL,AHF,AJH]at e;obtain⟨⟨y1,Yi,d1⟩,e1,⟨y2,Tb,d2⟩,e2,rfl,rfl,rfl⟩:=e;dsimp only at e2⊢;obtain⟨a1,a2,E1,F1,k1,o1⟩:=kp h hw hd hx e1;have j0:=k1.le.keep (w:=w) (vw:=vw) h.st;obtain⟨b1,b2,b3,E2,Fs,css,k2,c1,c2,c3,c4⟩:=TN hg (G:=F1++G) k1.boxes (hw.dv k1) a1 (hp.imp fun _ _ q=>⟨q.1,Kt j0 q.2⟩) e2;obtain⟨A,W,az,o1'⟩:=HB (d:=d'-1) (by omega) o1;refine⟨b1,AJe b2 a2,by simp[b3],_,A::Fs,v.cells.toList::css,Ep.more k1 k2 az,by simp[c1],by simp[c2],fun k cs y G' q1 q2 q3=> ?_,fun pre arr rz hpn ha=> ?_⟩
  ·cases k with
   |zero=>
    simp at q1 q2 q3;subst q1 q2 q3;refine Cr (S:=fun b=>E1.S b∨b∈W) ?_ (fun _ _=>rfl) (fun _ _=>rfl) o1'
    intro c hc;exact hc.elim (fun h=> .inl (k2.le.S c h)) .inr
   |succ k=>
    refine Cr (S:=E2.S) ?_ (fun _ _=>rfl) (fun _ _=>rfl) (c3 k cs y G' (by simpa using q1) (by simpa using q2) (by simpa using q3))
    intro c hc;exact .inl hc
  ·have hlen:v.cells.toList.length=r.n:=RM o1
   have hpf:pre.flatten.length=i*r.n:=by
    clear ha c4
    subst rz;clear e1 e2
    induction pre with
    |nil=>simp
    |cons c pre ih=>simp[hpn c (by simp),ih (fun c hc=>hpn c (by simp[hc])),AML];omega
   have Pd:(D5 arr (i*r.n) v.cells.toList).toList=pre.flatten++v.cells.toList++(List.replicate n (ED r)).flatten:=
    VD _ _ _ _ _ hpf ⟨ED r,by rw[HG,hlen],by rw[ha];simp[AL5]⟩
   obtain⟨Jd,f1,f2⟩:=c4 (pre++[v.cells.toList]) (D5 arr (i*r.n) v.cells.toList) (by simp[rz]) (by
    intro c hc;rcases AIf.1 hc with hc|hc
    ·exact hpn c hc
    ·simp at hc;subst hc;exact hlen) (by rw[Pd];simp)
   refine⟨Jd,?_,by rw[f2];simp⟩;rw[gg (i:=i) (off:=i*r.n) (size:=r.n) rfl (by simpa using hlen) ?_]
   ·exact f1
   ·have h1:arr.size=arr.toList.length:=by simp
    rw[h1,ha,AIj,hpf,DY,HG];simp at hlen;rw[hlen,AML];omega
 |n+1,i,[],[],E,bx,G,d,rows,Ls,d',h,hw,hd,hp,e=>by
  simp only[Sk,AHF,AJH]at e;obtain⟨⟨y2,Tb,d2⟩,e2,rfl,rfl,rfl⟩:=e;obtain⟨b1,b2,b3,E2,Fs,css,k2,c1,c2,c3,c4⟩:=TN hg (G:=G) h hw hd (parts:=[]) (vals:=[]) trivial e2;refine⟨b1,b2,by simp[b3],E2,[]::Fs,ED r::css,by simpa using k2,by simp[c1],by simp[c2],fun k cs y G' q1 q2 q3=> ?_,fun pre arr rz hpn ha=> ?_⟩
  ·cases k with
   |zero=>
    simp at q1 q2 q3;subst q1 q2 q3;exact Yq hg
   |succ k=>exact c3 k cs y G' (by simpa using q1) (by simpa using q2) (by simpa using q3)
  ·obtain⟨Jd,f1,f2⟩:=c4 (pre++[ED r]) arr (by simp[rz]) (by
    intro c hc;rcases AIf.1 hc with hc|hc
    ·exact hpn c hc
    ·simp at hc;subst hc;exact HG r) (by rw[ha];simp[AL5])
   exact⟨Jd,f1,by rw[f2];simp⟩
 |0,_,_::_,_,_,_,_,_,_,_,_,_,_,_,_,e=>by simp[Sk]at e
 |0,_,[],_::_,_,_,_,_,_,_,_,_,_,_,hp,_=>hp.elim
 |_+1,_,[],_::_,_,_,_,_,_,_,_,_,_,_,hp,_=>hp.elim
 |_+1,_,_::_,[],_,_,_,_,_,_,_,_,_,_,hp,_=>hp.elim
section
variable{Y:Type} {P:Program} {T:G8} (hT:Dd P T) {o:Oper} {E:Env} {σ:St} {a:Act} {w:World} {k:K Y} {y:Y}
include hT
theorem bQ(h:Rel E σ a w){t n:Nat}{ps:Array (Nat×Operand)}(ho:o.op= .buildSlice t n ps)(e:ME T t n (ps.toList.map fun q=>(q.1,σ.ev q.2)) σ k=some y):H6 P o E σ a w k y:=by
 unfold ME at e;split at e
 case h_2=>cases e
 rename_i el hd;split at e
 case h_2=>cases e
 rename_i r hr;split at e
 case isFalse=>cases e
 rename_i hc;simp only[AHN,AHl]at hc;obtain⟨⟨UK,hn⟩,hrn⟩:=hc;simp only[AHL]at e;obtain⟨⟨rows,Ls,d'⟩,e1,e⟩:=e;dsimp only at e;obtain⟨el',ti,hu,Mv,hs,hby,hrow⟩:=J2 hT UK;obtain⟨i,z,i1,i2,i3,i4,i5,hg⟩:=Wp hT Mv hrow;have AEm:=dD h ps;obtain⟨b1,b2,b3,E',Fs,css,k2,c1,c2,c3,c4⟩:=TN hg h.bx (DU.refl _) (by omega) AEm e1
 let zero:Array Value:=if n*r.n=0 then #[]else z.cells
 have hz:((Array.range (n*r.n)).map (fun j=>zero[j%zero.size]!)).toList=(List.replicate n (ED r)).flatten:=by
  by_cases h0:n*r.n=0
  ·have h1:(List.replicate n (ED r)).flatten=[]:=by
    rw[←ALq,DY,HG,h0]
   rw[h1];simp[h0]
  ·have YT:ED r≠[]:=by
    intro he;have:=HG r;rw[he]at this;simp at this;rw[←this]at h0;simp at h0
   have:=Ut i5 n YT;rw[HG]at this;simp only[zero,AHA h0];exact this
 obtain⟨Jd,f1,f2⟩:=c4 [] _ rfl (by simp) (by rw[hz];simp);simp only[AME,AJF]at f2
 let w':=w.alloc (.cells Jd el')
 have new:w'.heap[w.heap.size]? =some (.cells Jd el'):=by
  show(w.heap.push (.cells Jd el'))[w.heap.size]? =_
  simp
 obtain⟨d,rfl⟩:∃m,d' =m+1:=⟨d'-1,by omega⟩;have hl:∀c∈css,c.length=r.n:=by
  intro c hc;obtain⟨j,hj,rfl⟩:=AKN hc;exact RM (c3 j _ _ _ (AG7 hj) (AG7 (by omega)) (AG7 (by omega)))
 have hfl:css.flatten.length=n*r.n:=by
  rw[←c1];clear f2 c3 c4 c1
  induction css with
  |nil=>simp
  |cons c l ih=>simp[hl c (by simp),ih (fun c hc=>hl c (by simp[hc])),AML];omega
 have ABN:Jd.size=n*r.n:=by rw[←AL7,f2,hfl]
 obtain⟨Fs0,hB1,Qq⟩:=k2.boxes;simp only[AIs]at Qq;have how:Ow w' E'.S (d+1) (.sl r) [.slice (some ⟨w.heap.size,0,none⟩) rows.length n] rows (w.heap.size::Fs.flatten):=by
  refine ZJ (css:=css) (ex:=[]) new (by simpa using f2) (by omega) (by omega) (by omega) (Zn _) (by omega) fun k cs y G q1 q2 q3=> ?_
  have Wn:∀c∈G,c∈Fs.flatten:=fun c hc=>AJB.2 ⟨G,AIv q3,hc⟩
  exact Cr (fun _ h=>h) (fun c hc=>LR (Qq.XS c (Qq.st c hc))) (fun c hc=>LR (Qq.lt c (by simp only[AIf];exact .inr (Wn c hc)))) (by simpa using c3 k cs y G q1 q2 q3)
 rw[b3]at how;obtain⟨r1,r2,r3⟩:=OG h k2 (w':=w') (d:=d+1) (by omega) how (by
   intro c hc;rcases AI5.1 hc with rfl|hc
   ·exact .inr (AJI _)
   ·exact .inl hc) (by
   refine ALt.2 ⟨fun hc=> ?_,(AIJ.1 Qq.nodup).2.1⟩;have:=Qq.lt w.heap.size (by simp only[AIf];exact .inr hc);omega) (by
   intro c hc;rcases AI5.1 hc with rfl|hc
   ·simp[w']
   ·have:=Qq.lt c (by simp only[AIf];exact .inr hc)
    simp[w'];omega) (fun c hc _=>LR hc) ⟨rfl,rfl,rfl,by simp[w']⟩
 refine⟨_,_,_,_,_,.inl ?_,r1,r3,r2.any,rfl,e⟩;have Wt: ¬(n*r.n>2^24):=by
  have:n*r.n≤1024*1024:=Nat.mul_le_mul hn hrn;omega
 simp only[execOp,ho,Instr.buildSlice,Sem.run_bind,Az hu,Result.andThen_ok,sizeOf,typeInfo,run_program,i1,Sem.run_pure,i2,hs,Wt,AJU];by_cases h0:n*r.n=0
 ·have hz0:zero= #[]:=by simp only[zero,AG5 h0]
  rw[hz0]at f1;simp only[h0,AKn,Sem.run_bind,Sem.run_pure,Result.andThen_ok];rw[h0]at f1;simp only[f1,newRow,Sem.run_bind,run_newObj,Result.andThen_ok,Sem.run_pure];rfl
 ·have hz0:zero=z.cells:=by simp only[zero,AHA h0]
  rw[hz0]at f1;simp only[h0,AJU,Sem.run_bind,zeroValue,typeInfo,run_program,Result.andThen_ok,i1,Sem.run_pure,i4];simp only[f1,newRow,Sem.run_bind,run_newObj,Result.andThen_ok,Sem.run_pure];rfl
end
end Go.Fw
end
section
namespace Go.Fw
theorem UN(w:World)(b o:Nat)(v:Value):(w.setCell ⟨b,o,none⟩ v).heap=w.heap.modify b fun
 | .cells c elem frozen=> .cells (c.setIfInBounds o v) elem frozen
 |o=>o:=rfl
theorem Hp:∀(vs:List Value) (o:Nat) (w:World) (b:Nat) (arr:Array Value) (ty:TypeId) (fr:ABR),w.heap[b]? =some (.cells arr ty fr)→
  (w.setCells b o vs).heap[b]? =some (.cells (D5 arr o vs) ty fr)
 |[],_,_,_,_,_,_,h=>h
 |v::l,o,w,b,arr,ty,fr,h=>by
  simp only[World.setCells,D5];refine Hp l (o+1) _ b _ ty fr ?_
  rw[UN,Array.getElem?_modify,AG5 rfl,h];rfl
theorem E9:∀(vs:List Value) (o:Nat) (w:World) (b:Nat),(w.setCells b o vs).heap.size=w.heap.size
 |[],_,_,_=>rfl
 |v::l,o,w,b=>by
  simp only[World.setCells];rw[E9 l,UN,Array.size_modify]
theorem IH:∀(vs:List Value) (o:Nat) (w:World) (b c:Nat),c≠b→(w.setCells b o vs).heap[c]? =w.heap[c]?
 |[],_,_,_,_,_=>rfl
 |v::l,o,w,b,c,h=>by
  simp only[World.setCells];rw[IH l _ _ _ _ h,UN,Array.getElem?_modify,AHA (fun e=>h e.symm)]
theorem CM:∀(vs:List Value) (o:Nat) (w:World) (b:Nat),Grown w (w.setCells b o vs)
 |[],_,_,_=>⟨rfl,rfl,rfl,AJI _⟩
 |v::l,o,w,b=>by
  have:=CM l (o+1) (w.setCell ⟨b,o,none⟩ v) b;refine⟨this.os,this.tape,this.output,?_⟩;rw[E9];exact AJI _
theorem QZ{arr:Array Value}:∀{l:List Value} {o j:Nat},o+l.length≤arr.size→(D5 arr o l)[j]? =if o≤j∧j<o+l.length then l[j-o]? else arr[j]?:=by
 intro l
 induction l generalizing arr with
 |nil=>intro o j _;rw[AHA (fun hh=>by simp only[AI4]at hh;omega)];rfl
 |cons c l ih=>
  intro o j h;simp only[AIK]at h;simp only[D5];rw[ih (by simp;omega)];by_cases h1:o+1≤j∧j<o+1+l.length
  ·rw[AG5 h1,AG5 (by simp;omega)]
   rw[show j-o=(j-(o+1))+1 by omega];simp
  ·rw[AHA h1]
   by_cases h2:o=j
   ·subst h2
    rw[AG5 (by simp),Array.getElem?_setIfInBounds_self_of_lt (by omega),AMG];rfl
   ·rw[AHA (fun hh=>by simp only[AIK]at hh;omega),Array.getElem?_setIfInBounds_ne h2]
theorem JS{w:World}{b o:Nat}{arr:Array Value}{ty:TypeId}{fr:ABR}(h:w.heap[b]? =some (.cells arr ty fr)):w.cell? ⟨b,o,none⟩=arr[o]?:=by
 simp[World.cell?,h]
theorem PE{w:World}{b o:Nat}{vs:List Value}{arr:Array Value}{ty:TypeId}{fr:ABR}(h:w.heap[b]? =some (.cells arr ty fr))(hs:o+vs.length≤arr.size):Bp (w.setCells b o vs) b o vs:=by
 intro j v hj;have hl:=(AG0.1 hj).1;rw[JS (Hp vs o w b arr ty fr h),QZ hs,AG5 (by omega),show o+j-o=j by omega,hj]
theorem XJ{w:World}{b b' o o':Nat}{vs cs:List Value}{arr:Array Value}{ty:TypeId}{fr:ABR}(hc:Bp w b' o' cs)(h:w.heap[b]? =some (.cells arr ty fr))(hs:o+vs.length≤arr.size)
  (ha:b'≠b∨o'+cs.length≤o∨o+vs.length≤o'):Bp (w.setCells b o vs) b' o' cs:=by
 intro j v hj;have hl:=(AG0.1 hj).1;by_cases hb:b' =b
 ·subst hb
  have:=hc j v hj;rw[JS h]at this;rw[JS (Hp vs o w b' arr ty fr h),QZ hs,AHA (by omega),this]
 ·rw[World.cell?_of_block (a:=⟨b',o'+j,none⟩) (IH vs o w b b' hb)]
  exact hc j v hj
theorem Yo{w:World}{b o n k:Nat}{arr:Array Value}{ty:TypeId}{fr:ABR}(h:w.heap[b]? =some (.cells arr ty fr))(hs:o+n≤arr.size)(hu:mG fr (arr.size+k)):w.there b o n:=by
 intro j hj;refine⟨?_,?_⟩
 ·rw[JS h]
  simp;omega
 ·have:=hu (o+j) (by omega)
  obtain⟨lo,hi⟩:=fr;simp only[World.frozen?,h];simp at this⊢;omega
theorem dH{w:World}{S:Nat→Prop}:∀{r:Ty} {d:Nat} {cs:List Value} {y:r.D} {F:AAz},Ow w S d r cs y F→ ∀v∈cs,v.oneCell' =true
 | .int _,_,_,_,_,h,v,hv=>by simp only[Ow]at h;rw[h.1]at hv;simp at hv;subst hv;rfl
 | .bool,_,_,_,_,h,v,hv=>by simp only[Ow]at h;rw[h.1]at hv;simp at hv;subst hv;rfl
 | .str,_,_,_,_,h,v,hv=>by simp only[Ow]at h;rw[h.1]at hv;simp at hv;subst hv;rfl
 | .unit,_,_,_,_,h,v,hv=>by simp only[Ow]at h;rw[h.1]at hv;simp at hv
 | .sl _,0,_,_,_,h,v,hv=>by
  simp only[Ow,Rd]at h;obtain⟨⟨_,_,rfl,_⟩,_⟩:=h;simp at hv;subst hv;rfl
 | .sl _,_+1,_,_,_,h,v,hv=>by
  simp only[Ow]at h;obtain⟨_,_,rfl,_⟩:=h;simp at hv;subst hv;rfl
 | .cons _ _,_,_,_,_,h,v,hv=>by
  simp only[Ow]at h;obtain⟨u,l,F1,F2,rfl,_,h1,h2⟩:=h;rcases AI5.1 hv with rfl|hv
  ·exact dH h1 _ (by simp)
  ·exact dH h2 _ hv
section
variable{P:Program} {w:World}
structure fo (P:Program) (w:World) (size n:Nat) (x:Value) (news:List Value):Prop where
 len:∀w',(Builtin.lenOf x).run P w' = .ok n w'
 cells:∀w',w'.heap=w.heap→(Builtin.firstCells size n x).run P w' = .ok news.toArray w'
theorem gB{ts:Array TypeId}{t u ty e:TypeId}(kH:ts[0]? =some t)(lG:ts[1]? =some u){i:TypeInfo}{size:Nat}(ht:P.underlying t=some (.slice e))(hu:(∃e,P.underlying u=some (.slice e))∨P.underlying u=some .string)(hi:P.info? e=some i)(LJ:i.size=size)
  {b o TP eL n:Nat} {x:Value} {news:List Value} (hn:fo P w size n x news) (hU:TP+n≤eL) (hth:w.there b (o+TP*size) news.length) (h1:∀v∈news,v.oneCell' =true):
  (Builtin.append_ ts ty #[.slice (some ⟨b,o,none⟩) TP eL,x]).run P w= .ok (.slice (some ⟨b,o,none⟩) (TP+n) eL) (w.setCells b (o+TP*size) news):=by
 subst LJ;have mA:=run_storeCells_cells (P:=P) b (o+TP*i.size) news 0 w (fun j hj=>by simpa using(hth j hj).1) (fun j hj=>by simpa using(hth j hj).2) h1;simp only[ALW]at mA;have hl:=hn.len w;have hf:=hn.cells w rfl;rcases hu with⟨e',hu⟩|hu
 ·simp[Builtin.append_,kH,lG,run_underlying ht,run_underlying hu,sizeOf,typeInfo,hi,hl,hU,hf,Addr.add_eq,mA]
 ·simp[Builtin.append_,kH,lG,run_underlying ht,run_underlying hu,sizeOf,typeInfo,hi,hl,hU,hf,Addr.add_eq,mA]
theorem bp{ts:Array TypeId}{t u ty e:TypeId}(kH:ts[0]? =some t)(lG:ts[1]? =some u){i:TypeInfo}{size:Nat}(ht:P.underlying t=some (.slice e))(hu:(∃e,P.underlying u=some (.slice e))∨P.underlying u=some .string)(hi:P.info? e=some i)(LJ:i.size=size)
  {a:Option Addr} {x:Value} (hn:fo P w size 0 x []):
  (Builtin.append_ ts ty #[.slice a 0 0,x]).run P w= .ok (.slice a 0 0) w:=by
 subst LJ;have hl:=hn.len w;have hf:=hn.cells w rfl;cases a with
 |none=>
  rcases hu with⟨e',hu⟩|hu
  ·simp[Builtin.append_,kH,lG,run_underlying ht,run_underlying hu,sizeOf,typeInfo,hi,hl,hf]
  ·simp[Builtin.append_,kH,lG,run_underlying ht,run_underlying hu,sizeOf,typeInfo,hi,hl,hf]
 |some a=>
  have mA:(storeCells (a.add (0*i.size)) [] 0).run P w= .ok () w:=rfl;rcases hu with⟨e',hu⟩|hu
  ·simp[Builtin.append_,kH,lG,run_underlying ht,run_underlying hu,sizeOf,typeInfo,hi,hl,hf,storeCells]
  ·simp[Builtin.append_,kH,lG,run_underlying ht,run_underlying hu,sizeOf,typeInfo,hi,hl,hf,storeCells]
theorem cF{ts:Array TypeId}{t u ty e:TypeId}(kH:ts[0]? =some t)(lG:ts[1]? =some u){i:TypeInfo}{z:Value}{size:Nat}(ht:P.underlying t=some (.slice e))(hu:(∃e,P.underlying u=some (.slice e))∨P.underlying u=some .string)(hi:P.info? e=some i)(hz:i.zero=some z)(LJ:i.size=size)
  {a:Option Addr} {TP eL n:Nat} {x:Value} {AGw news:List Value} (ho:∀w',w'.heap=w.heap→(Builtin.firstCells size TP (.slice a TP eL)).run P w' = .ok AGw.toArray w')
  (hn:fo P w size n x news) (AH_:eL<TP+n) (h63:TP+n≤DH) (hby:i.bytes≤512):
  (Builtin.append_ ts ty #[.slice a TP eL,x]).run P w= .ok (.slice (some ⟨w.heap.size,0,none⟩) (TP+n) (grownCap w (TP+n) eL e))
   (w.drew.alloc (.cells (AGw.toArray++news.toArray++Builtin.zeroCells z.cells (grownCap w (TP+n) eL e-(TP+n))) e)):=by
 subst LJ;have hl:=hn.len w;have hf:=hn.cells w.drew rfl;have hfo:=ho w.drew rfl;have hno: ¬(TP+n≤eL):=by omega
 have hb:(TP+n)*i.bytes≤140737488355328:=by
  have:(TP+n)*i.bytes≤DH*512:=Nat.mul_le_mul h63 hby;simp only[DH]at this;omega
 have h48:=growslice_fits AH_ hb;have AGL: ¬(281474976710656<Builtin.nextslicecap (TP+n) eL*i.bytes):=by omega
 have AG2: ¬(9223372036854775807<((TP:Int)+(n:Int))):=by simp only[DH]at h63;omega
 rcases hu with⟨e',hu⟩|hu
 ·simp[Builtin.append_,kH,lG,run_underlying ht,run_underlying hu,sizeOf,typeInfo,zeroValue,hi,hz,hl,hno,AG2,AGL,Question.forced,hf,hfo,newRow,grownCap]
  congr 2
  apply Array.ext';simp[AHH]
 ·simp[Builtin.append_,kH,lG,run_underlying ht,run_underlying hu,sizeOf,typeInfo,zeroValue,hi,hz,hl,hno,AG2,AGL,Question.forced,hf,hfo,newRow,grownCap]
  congr 2
  apply Array.ext';simp[AHH]
end
end Go.Fw
end
section
namespace Go.Fw
def Ds(w:World)(S:Nat→Prop)(d:Nat)(r:Ty)(css:List (List Value))(rows:List r.D)(Fs:List AAz):Prop:=
 css.length=rows.length∧Fs.length=rows.length∧(∀c∈css,c.length=r.n)∧ ∀(i:Nat) cs y G,css[i]? =some cs→rows[i]? =some y→Fs[i]? =some G→Ow w S d r cs y G
theorem Ds.mono{w w':World}{S S':Nat→Prop}{d:Nat}{r:Ty}{css:List (List Value)}{rows:List r.D}{Fs:List AAz}(h:Ds w S d r css rows Fs)(hS:∀c,S c→S' c)(hw:∀c,S c→w'.heap[c]? =w.heap[c]?)
  (hF:∀c∈Fs.flatten,w'.heap[c]? =w.heap[c]?):Ds w' S' d r css rows Fs:=
 ⟨h.1,h.2.1,h.2.2.1,fun i cs y G a b c=>Cr hS hw (fun x hx=>hF x (AJB.2 ⟨G,AIv c,hx⟩)) (h.2.2.2 i cs y G a b c)⟩
theorem Ds.append{w:World}{S:Nat→Prop}{d:Nat}{r:Ty}{css AH0:List (List Value)}{rows B3:List r.D}{Fs Fs':List AAz}(h:Ds w S d r css rows Fs)(k:Ds w S d r AH0 B3 Fs'):
  Ds w S d r (css++AH0) (rows++B3) (Fs++Fs'):=by
 refine⟨by simp[h.1,k.1],by simp[h.2.1,k.2.1],fun c hc=>(AIf.1 hc).elim (h.2.2.1 c) (k.2.2.1 c),fun i cs y G a b c=> ?_⟩;by_cases hi:i<rows.length
 ·rw[AHR (by rw[h.1];exact hi)]at a
  rw[AHR hi]at b;rw[AHR (by rw[h.2.1];exact hi)]at c;exact h.2.2.2 i cs y G a b c
 ·rw[AIw (by rw[h.1];omega)]at a
  rw[AIw (by omega)]at b;rw[AIw (by rw[h.2.1];omega)]at c;rw[h.1]at a;rw[h.2.1]at c;exact k.2.2.2 _ cs y G a b c
theorem Ds.weaken{w:World}{S:Nat→Prop}{d d':Nat}{r:Ty}{css:List (List Value)}{rows:List r.D}{Fs:List AAz}(h:Ds w S d r css rows Fs)(hd:d'≤d):
  ∃(Gs:List AAz) (W:AAz),Fs.flatten.Perm (Gs.flatten++W)∧Ds w (fun c=>S c∨c∈W) d' r css rows Gs:=by
 obtain⟨Gs,Ws,h1,h2,h3,h4⟩:=ck (R:=fun i G F W=> ∀cs y,css[i]? =some cs→rows[i]? =some y→Ow w (fun c=>S c∨c∈W) d' r cs y F) Fs 0 (fun i G hG=>by
  rw[AKi];have hi:=(AG0.1 hG).1;have h1:=h.1;have h2:=h.2.1;obtain⟨F,W,hp,ho⟩:=HB hd (h.2.2.2 i _ _ G (AG7 (by omega)) (AG7 (by omega)) hG);refine⟨F,W,hp,fun cs y a b=> ?_⟩;rw[AG7 (by omega)]at a b;cases a;cases b;exact ho)
 refine⟨Gs,Ws.flatten,h3,h.1,h1.trans h.2.1,h.2.2.1,fun i cs y G a b c=> ?_⟩;have hi:=(AG0.1 c).1;have hw:Ws[i]? =some (Ws[i]'(by omega)):=AG7 _;have hf:Fs[i]? =some (Fs[i]'(by omega)):=AG7 _;have:=h4 i _ _ _ hf c hw cs y (by rw[AKi];exact a) (by rw[AKi];exact b);exact Cr (fun x hx=>hx.imp id fun hx=>AJB.2 ⟨_,AIv hw,hx⟩) (fun _ _=>rfl) (fun _ _=>rfl) this
theorem SZ{n:Nat}:∀{css:List (List Value)},(∀c∈css,c.length=n)→css.flatten.length=css.length*n
 |[],_=>by simp
 |c::l,h=>by simp[h c (by simp),SZ (css:=l) (fun c hc=>h c (by simp[hc])),AML];omega
theorem Ds.one{w:World}{S:Nat→Prop}{d:Nat}{r:Ty}{css:List (List Value)}{rows:List r.D}{Fs:List AAz}(h:Ds w S d r css rows Fs):∀v∈css.flatten,v.oneCell' =true:=by
 intro v hv;obtain⟨c,hc,hv⟩:=AJB.1 hv;obtain⟨i,hi,rfl⟩:=AKN hc;have h1:=h.1;have h2:=h.2.1;exact dH (h.2.2.2 i _ _ _ (AG7 hi) (AG7 (by omega)) (AG7 (by omega))) v hv
theorem Ds.flat{w:World}{B S:Nat→Prop}{d:Nat}{r:Ty}(hf:r.flat=true){css:List (List Value)}{rows:List r.D}(h1:css.length=rows.length)(h2:∀c∈css,c.length=r.n)
  (h3:∀(i:Nat) cs y,css[i]? =some cs→rows[i]? =some y→Rd w B r cs y):Ds w S d r css rows (List.replicate rows.length []):=by
 refine⟨h1,by simp,h2,fun i cs y G a b c=> ?_⟩;have:G=[]:=AKQ (AIv c);subst this;exact Yu hf (h3 i cs y a b)
theorem Bp.heap{w w':World}{b o:Nat}{cs:List Value}(h:Bp w b o cs)(e:w'.heap=w.heap):Bp w' b o cs:=h.of_block (by rw[e])
theorem N1{P:Program}{w:World}{a:Option Addr}{n cap size:Nat}{css:List (List Value)}(hl:css.length=n)(hc:∀c∈css,c.length=size)
  (h:n=0∨ ∃b o,a=some ⟨b,o,none⟩∧Bp w b o css.flatten):fo P w size n (.slice a n cap) css.flatten:=by
 refine⟨fun w' =>rfl,fun w' e=> ?_⟩;have hlen:css.flatten.length=n*size:=by rw[SZ hc,hl]
 rcases h with rfl|⟨b,o,rfl,h⟩
 ·have:css=[]:=AI6 hl
  subst this;cases a with
  |none=>rfl
  |some a=>
   simp only[Builtin.firstCells,Nat.zero_mul,AME];exact Q7 a
 ·simp only[Builtin.firstCells]
  rw[←hlen];exact aQ (h.heap e)
theorem sv{P:Program}{w:World}{s:AA_}:fo P w 1 s.length (.string ⟨s.toArray⟩) (s.map fun c=>[Value.int .u8 (c.toNat:Int)]).flatten:=by
 refine⟨fun w' =>rfl,fun w' _=> ?_⟩;have LJ:(⟨s.toArray⟩:ByteArray).size=s.length:=by simp[ByteArray.size]
 have e1:(⟨s.toArray⟩:ByteArray).extract 0 s.length=⟨s.toArray⟩:=by
  rw[←LJ];apply ByteArray.ext;simp
 simp only[Builtin.firstCells,e1,Sem.run_pure];have:(s.map fun c=>[Value.int .u8 (c.toNat:Int)]).flatten=s.map fun c=>Value.int .u8 (c.toNat:Int):=by
  have:=Rs (l:=s.map fun c=>Value.int .u8 (c.toNat:Int));simpa[AL_,Function.comp_def]using this
 rw[this];simp
theorem nP{w:World}{S:Nat→Prop}{d:Nat}{r:Ty}{v:Value}{rows:List r.D}{F:AAz}(h:Ow w S (d+1) (.sl r) [v] rows F):
  ∃a cap css Fs R,v= .slice a rows.length cap∧rows.length≤cap∧Ds w S d r css rows Fs∧F.Perm (Fs.flatten++R)∧
   ((cap=0∧F=[])∨ ∃b o arr ty fr,a=some ⟨b,o,none⟩∧w.heap[b]? =some (.cells arr ty fr)∧o+cap*r.n≤arr.size∧mG fr (arr.size+mk r)∧F=b::Fs.flatten∧Bp w b o css.flatten):=by
 simp only[Ow]at h;obtain⟨a,cap,e,hle,h⟩:=h;simp only[AJD,AKa]at e;subst e;rcases h with⟨h,rfl⟩|⟨b,o,arr,ty,fr,Fs,rfl,hb,LJ,hu,rfl,hFl,hr⟩
 ·have:rows=[]:=AI6 (by omega)
  subst this;exact⟨a,cap,[],[],[],rfl,hle,⟨rfl,rfl,by simp,fun i cs y G h=>by simp at h⟩,by simp,.inl ⟨h,rfl⟩⟩
 ·
  have key:∀(n o:Nat) (ys:List r.D) (Fs:List AAz),ys.length=n→Fs.length=n→(∀(i:Nat) (y:r.D) (G:AAz),ys[i]? =some y→Fs[i]? =some G→ ∃cs,cs.length=r.n∧Bp w b (o+i*r.n) cs∧Ow w S d r cs y G)→
    ∃css,Ds w S d r css ys Fs∧Bp w b o css.flatten:=by
   intro n
   induction n with
   |zero=>
    intro o ys Fs h1 h2 _;obtain rfl:=AI6 h1;obtain rfl:=AI6 h2;exact⟨[],⟨rfl,rfl,by simp,fun i cs y G h=>by simp at h⟩,fun _ _ h=>by simp at h⟩
   |succ n ih=>
    intro o ys Fs h1 h2 hh;obtain⟨y,ys,rfl⟩:=AMD h1;obtain⟨G,Fs,rfl⟩:=AMD h2;obtain⟨cs,c1,c2,c3⟩:=hh 0 y G rfl rfl;obtain⟨css,d1,d2⟩:=ih (o+r.n) ys Fs (by simpa using h1) (by simpa using h2) (fun i z G hz hG=>by
     obtain⟨cs,e1,e2,e3⟩:=hh (i+1) z G (by simpa using hz) (by simpa using hG);refine⟨cs,e1,?_,e3⟩;rw[AKk,AMH]at e2
     rwa [show o+r.n+i*r.n=o+(i*r.n+r.n)by omega])
    refine⟨cs::css,⟨by simp[d1.1],by simp[d1.2.1],fun c hc=> ?_,fun i VN y' G' a b c=> ?_⟩,?_⟩
    ·rcases AI5.1 hc with rfl|hc
     ·exact c1
     ·exact d1.2.2.1 c hc
    ·cases i with
     |zero=>simp at a b c;subst a b c;exact c3
     |succ i=>exact d1.2.2.2 i VN y' G' (by simpa using a) (by simpa using b) (by simpa using c)
    ·rw[AJn]
     refine Bp.append (by simpa using c2) ?_
     rw[c1];exact d2
  obtain⟨css,k1,k2⟩:=key rows.length o rows Fs rfl hFl hr;refine⟨_,cap,css,Fs,[b],rfl,hle,k1,?_,.inr ⟨b,o,arr,ty,fr,rfl,hb,LJ,hu,rfl,k2⟩⟩;exact(AJA (l₁:=[b]) (l₂:=Fs.flatten))
theorem Zh{w:World}{S:Nat→Prop}:∀{r:Ty} {cs:List Value} {x:r.D},Rd w S r cs x→Ow w S 0 r cs x []
 | .cons c r,cs,x,hr=>by
  simp only[Rd]at hr;obtain⟨v,l,rfl,h1,h2⟩:=hr;simp only[Ow];exact⟨v,l,[],[],rfl,rfl,Zh h1,Zh h2⟩
 | .unit,_,_,hr=>by simp only[Rd]at hr;simp[Ow,hr]
 | .int k,_,_,hr=>by simp only[Rd]at hr;simp[Ow,hr]
 | .bool,_,_,hr=>by simp only[Rd]at hr;simp[Ow,hr]
 | .str,_,_,hr=>by simp only[Rd]at hr;simp[Ow,hr]
 | .sl q,_,_,hr=>by simp only[Ow];exact⟨hr,trivial⟩
theorem XK{P:Program}{E:Env}{w:World}{vw bx:List Bx}{G:AAz}(h:CD E w vw bx G)(hw:DU bx vw){x:AV}{v:Value}(hv:VR E w vw x v){r:Ty}{rows:List r.D}{Ls:List Bx}{d:Nat}
  (e:cU bx x=some ⟨r,rows,Ls,d⟩):1≤d∧ ∃E' F css Fs R,Ep E w vw bx G E' Ls F∧F.Perm (List.flatten Fs++R)∧Ds w E'.S (d-1) r css rows Fs∧fo P w r.n rows.length v css.flatten:=by
 have plain:∀{B:Nat→Prop} {ys:List r.D},r.flat=true→Rd w B (.sl r) [v] ys→ ∀S:Nat→Prop,∃css,Ds w S 8 r css ys (List.replicate ys.length [])∧fo P w r.n ys.length v css.flatten:=by
  intro B ys hf hr S;simp only[Rd]at hr;obtain⟨a,cap,e1,hle,hr⟩:=hr;simp only[AJD,AKa]at e1;subst e1;rcases hr with hr|⟨b,o,rfl,_,hr⟩
  ·have:ys=[]:=AI6 hr
   subst this;exact⟨[],⟨rfl,rfl,by simp,fun i cs y G h=>by simp at h⟩,N1 (css:=[]) rfl (by simp) (.inl rfl)⟩
  ·obtain⟨css,c1,c2,c3,c4⟩:=jf hr
   exact⟨css,Ds.flat hf c1 c2 c4,N1 c1 c2 (.inr ⟨b,o,rfl,c3⟩)⟩
 have done:∀{B:Nat→Prop} {ys:List r.D},r.flat=true→Rd w B (.sl r) [v] ys→rows=ys→Ls=bx→d=9→
   1≤d∧ ∃E' F css Fs R,Ep E w vw bx G E' Ls F∧F.Perm (List.flatten Fs++R)∧Ds w E'.S (d-1) r css rows Fs∧fo P w r.n rows.length v css.flatten:=by
  intro B ys hf hr e1 e2 e3;subst e1 e2 e3;obtain⟨css,k1,k2⟩:=plain hf hr E.S;exact⟨by omega,E,[],css,_,[],Ep.refl h,by simp,k1,k2⟩
 unfold cU at e;split at e
 ·rename_i s
  simp only[AG9,AIx]at e;obtain⟨rfl,e⟩:=e;have e:=AJE e;simp only[AJH]at e;obtain⟨rfl,rfl,rfl⟩:=e;have VM:=Rn hv;subst VM;refine⟨by omega,E,[],s.map fun c=>[Value.int .u8 (c.toNat:Int)],_,[],Ep.refl h,?_,Ds.flat (B:=fun _=>False) rfl (by simp) (by simp[Ty.n]) (fun i cs y a b=> ?_),?_⟩
  ·simp
  ·simp only[AJG,AHF]at a b
   obtain⟨c1,z1,rfl⟩:=a;obtain⟨c2,z2,rfl⟩:=b;rw[z1]at z2;cases z2;simp[Rd]
  ·have:=sv (P:=P) (w:=w) (s:=s)
   simpa[Ty.n]using this
 ·rename_i s q ys
  split at e
  ·rename_i hf
   simp only[AG9,AIx]at e;obtain⟨rfl,e⟩:=e;have e:=AJE e;simp only[AJH]at e;obtain⟨rfl,rfl,rfl⟩:=e;exact done hf hv rfl rfl rfl
  ·split at e
   case isFalse=>cases e
   rename_i hs;simp only[AG9,AIx]at e;obtain⟨rfl,e⟩:=e;have e:=AJE e;simp only[AJH]at e;obtain⟨rfl,rfl,rfl⟩:=e;subst hs;simp only[VR,AKn]at hv;simp only[Rd]at hv;obtain⟨a,cap,e1,hle,hr⟩:=hv;simp only[AJD,AKa]at e1;subst e1;have key:∃css:List (List Value),List.length css=ys.length∧(∀c∈css,c.length=q.n)∧(∀(i:Nat) cs y,css[i]? =some cs→ys[i]? =some y→Rd w E.S q cs y)∧fo P w q.n ys.length (.slice a ys.length cap) css.flatten:=by
    rcases hr with hr|⟨b,o,rfl,_,hr⟩
    ·have:ys=[]:=AI6 hr
     subst this;exact⟨[],rfl,by simp,fun i cs y h=>by simp at h,N1 (css:=[]) rfl (by simp) (.inl rfl)⟩
    ·obtain⟨css,c1,c2,c3,c4⟩:=jf hr
     exact⟨css,c1,c2,c4,N1 c1 c2 (.inr ⟨b,o,rfl,c3⟩)⟩
   obtain⟨css,c1,c2,c3,c4⟩:=key;refine⟨AJI _,E,[],css,List.replicate ys.length [],[],Ep.refl h,by simp,⟨c1,by simp,c2,fun i cs y G a b c=> ?_⟩,c4⟩;have:G=[]:=AKQ (AIv c);subst this;exact Zh (c3 i cs y a b)
 ·rename_i b
  split at e
  case h_2=>cases e
  rename_i d0 q ys hb;split at e
  ·rename_i hf
   simp only[AG9,AIx]at e;obtain⟨rfl,e⟩:=e;have e:=AJE e;simp only[AJH]at e;obtain⟨rfl,rfl,rfl⟩:=e;obtain⟨Fs,hB,hS⟩:=h;exact done hf (T1 hw hB hS.st hv (q:=q) (ys:=ys) (by simp[Jc,hb,Ee])) rfl rfl rfl
  ·simp only[AG9,AIx]at e
   obtain⟨rfl,e⟩:=e;have e:=AJE e;simp only[AJH]at e;obtain⟨rfl,rfl,rfl⟩:=e;obtain⟨F,⟨hd,ho⟩,hB⟩:=h.take hb;have hvw:=Sr hw hb;simp only[VR,hvw,B6,AG9]at hv;obtain⟨_,_,_,rfl⟩:=hv;obtain⟨m,rfl⟩:∃m,d0=m+1:=⟨d0-1,by omega⟩;obtain⟨a,cap,css,Fs,R,e1,hle,VI,hp,hcase⟩:=nP ho;refine⟨hd,E,F,css,Fs,R,⟨Le.refl _,by simp,fun n B hn=> ?_,hB⟩,hp,VI,?_⟩
   ·rw[AKW]at hn
    split at hn
    ·split at hn
     ·exact .inl (by simpa using hn.symm)
     ·cases hn
    ·exact .inr hn
   ·rw[e1]
    refine N1 VI.1 VI.2.2.1 ?_
    rcases hcase with⟨h0,_⟩|⟨b,o,arr,ty,fr,rfl,_,_,_,_,hc⟩
    ·exact .inl (by omega)
    ·exact .inr ⟨b,o,rfl,hc⟩
 ·rename_i b p _
  split at e
  case h_2=>cases e
  rename_i d0 q ys hb;simp only[AHL]at e;obtain⟨⟨q',zs⟩,e1,e⟩:=e;dsimp only at e;split at e
  case isFalse=>cases e
  rename_i hf;simp only[AG9,AIx]at e;obtain⟨rfl,e⟩:=e;have e:=AJE e;simp only[AJH]at e;obtain⟨rfl,rfl,rfl⟩:=e;obtain⟨Fs,hB,hS⟩:=h;exact done hf (T1 hw hB hS.st hv (q:=q') (ys:=zs) (by simp[Jc,hb,e1])) rfl rfl rfl
 ·rename_i b p off n
  split at e
  case h_2=>cases e
  rename_i d0 q ys hb;simp only[AHL]at e;obtain⟨⟨q',zs⟩,e1,e⟩:=e;dsimp only at e;split at e
  case isFalse=>cases e
  rename_i hf;simp only[AG9,AIx]at e;obtain⟨rfl,e⟩:=e;have e:=AJE e;simp only[AJH]at e;obtain⟨rfl,rfl,rfl⟩:=e;obtain⟨Fs,hB,hS⟩:=h;exact done hf (T1 hw hB hS.st hv (q:=q') (ys:=(zs.drop off).take n) (by simp[Jc,hb,e1])) rfl rfl rfl
 ·cases e
theorem XU{E:Env}{w:World}{vw bx:List Bx}{G:AAz}(h:CD E w vw bx G)(hw:DU bx vw){x:AV}{v:Value}(hv:VR E w vw x v){r:Ty}{rows:List r.D}{Ls:List Bx}{d:Nat}
  (e:cN bx x=some ⟨r,rows,Ls,d⟩):1≤d∧ ∃F1 F2,Ep E w vw bx G E Ls (F1++F2)∧Ow w E.S d (.sl r) [v] rows F1:=by
 have tk:∀{b d0:Nat} {q:Ty} {ys:List q.D},bx[b]? =some (.sl d0 q ys)→ ∃F,1≤d0∧Ow w E.S d0 (.sl q) [E.Ft b] ys F∧Ep E w vw bx G E (bx.set b .dead) F:=by
  intro b d0 q ys hb;obtain⟨F,⟨hd,ho⟩,hB⟩:=h.take hb;refine⟨F,hd,ho,⟨Le.refl _,by simp,fun n B hn=> ?_,hB⟩⟩;rw[AKW]at hn;split at hn
  ·split at hn
   ·exact .inl (by simpa using hn.symm)
   ·cases hn
  ·exact .inr hn
 unfold cN at e;split at e
 ·rename_i b
  split at e
  case h_2=>cases e
  rename_i d0 q ys hb;simp only[AG9,AIx]at e;obtain⟨rfl,e⟩:=e;have e:=AJE e;simp only[AJH]at e;obtain⟨rfl,rfl,rfl⟩:=e;obtain⟨F,hd,ho,hT⟩:=tk hb;have hvw:=Sr hw hb;simp only[VR,hvw,B6,AG9]at hv;obtain⟨_,_,_,rfl⟩:=hv;exact⟨hd,F,[],by simpa using hT,ho⟩
 ·rename_i b off n
  split at e
  case h_2=>cases e
  rename_i d0 q ys hb;simp only[AG9,AIx]at e;obtain⟨rfl,e⟩:=e;have e:=AJE e;simp only[AJH]at e;obtain⟨rfl,rfl,rfl⟩:=e;obtain⟨F,hd,ho,hT⟩:=tk hb;have hvw:=Sr hw hb;simp only[VR,hvw,B6,AG9]at hv;obtain⟨_,_,q',zs,a,len,cap,h1,h2,h3,rfl⟩:=hv;simp only[Ee,AG9,AIx]at h1;obtain⟨rfl,h1⟩:=h1;obtain rfl:=AJE h1;rw[h3]at ho;obtain⟨m,rfl⟩:∃m,d0=m+1:=⟨d0-1,by omega⟩;obtain⟨F1,F2,hp,lb⟩:=qR ho h2;exact⟨hd,F1,F2,⟨hT.le,hT.len,hT.within,hT.boxes.perm (AI2 _ hp)⟩,lb⟩
 ·cases e
end Go.Fw
end
section
namespace Go.Fw
theorem gQ{P:Program}{w:World}{a:Option Addr}{n cap size:Nat}{css:List (List Value)}(hl:css.length=n)(hc:∀c∈css,c.length=size)
  (h:n=0∨ ∃b o,a=some ⟨b,o,none⟩∧Bp w b o css.flatten):∀w',w'.heap=w.heap→(Builtin.firstCells size n (.slice a n cap)).run P w' = .ok css.flatten.toArray w':=
 (N1 (P:=P) (cap:=cap) hl hc h).cells
theorem f_{z:Array Value}{n:Nat}:(Builtin.zeroCells z n).size=n*z.size:=size_zeroCells z n
section
variable{Y:Type} {P:Program} {T:G8} (hT:Dd P T) {o:Oper} {E:Env} {σ:St} {a:Act} {w:World} {k:K Y} {y:Y}
include hT
theorem aa(h:Rel E σ a w){E2:Env}{Tb:List Bx}{F Fd R:AAz}{t u ty:TypeId}{ts:Array TypeId}(kH:ts[0]? =some t)(lG:ts[1]? =some u)
  (hu:(∃e,P.underlying u=some (.slice e))∨P.underlying u=some .string) {m:Nat} {r:Ty} (UK:T.NM t r=true)
  (kT:Ep E w σ.bx σ.bx [] E2 Tb F) {v1 v2:Value} {drows Nh:List r.D} {css:List (List Value)} {Fs:List AAz}
  (ho:Ow w E2.S (m+1) (.sl r) [v1] drows Fd) (hs:Ds w E2.S m r css Nh Fs) (hn:fo P w r.n Nh.length v2 css.flatten) (hp:F.Perm (Fd++Fs.flatten++R)) (Wt:drows.length+Nh.length≤DH):
  ∃v w' E',(Builtin.append_ ts ty #[v1,v2]).run P w= .ok v w'∧Rel E' { σ with bx:=Tb++[.sl (m+1) r (drows++Nh)] } a w'∧Mb [] E σ.bx w E' (Tb++[.sl (m+1) r (drows++Nh)]) w'∧
   XR E' w' (Tb++[.sl (m+1) r (drows++Nh)]) (.c (.ref Tb.length [])) v:=by
 obtain⟨e,ti,hut,Mv,hs1,hby,hrow⟩:=J2 hT UK;obtain⟨i,z,i1,i2,i3,i4,i5,hg⟩:=Wp hT Mv hrow;rw[hs1]at i2;obtain⟨Fs0,hB1,Qq⟩:=kT.boxes;simp only[AIs]at Qq;have hdF:∀c∈Fd,c∈F:=fun c hc=>hp.mem_iff.2 (by simp[hc])
 have hsF:∀c∈Fs.flatten,c∈F:=fun c hc=>hp.mem_iff.2 (by simp only[AIf];exact .inl (.inr hc))
 have ndF:=(AIJ.1 (hp.nodup_iff.1 (AIJ.1 Qq.nodup).2.1)).1;have ltF:∀c∈F,c<w.heap.size:=fun c hc=>Qq.lt c (by simp only[AIf];exact .inr hc)
 have AIH:∀c∈F,¬E2.S c:=fun c hc hS=>Qq.free c (by simp only[AIf];exact .inr hc) (Qq.st c hS)
 have ho0:=ho;obtain⟨ad,cap,dcss,Fs1,R1,rfl,hle,hd,hp1,hcase⟩:=nP ho;have Vm:css.flatten.length=Nh.length*r.n:=by rw[SZ hs.2.2.1,hs.1]
 have hdl:dcss.flatten.length=drows.length*r.n:=by rw[SZ hd.2.2.1,hd.1]
 by_cases hU:drows.length+Nh.length≤cap
 ·rcases hcase with⟨h0,hF0⟩|⟨b,of,arr,ty0,fr,rfl,hb,LJ,hunf,rfl,hc⟩
  ·
   have hd0:drows=[]:=AI6 (by omega);have hs0:Nh=[]:=AI6 (by omega);subst hd0 hs0;have hc0:css=[]:=AI6 hs.1;subst hc0 h0;have fW:=bp (P:=P) (w:=w) (ty:=ty) kH lG hut hu i1 i2 (a:=ad) (x:=v2) (by simpa using hn);obtain⟨r1,r2,r3⟩:=OG h kT (w':=w) (d:=m+1) (by omega) ho0 (fun c hc=> .inl (hdF c hc)) (AIJ.1 ndF).1 (fun c hc=>ltF c (hdF c hc)) (fun _ _ _=>rfl) ⟨rfl,rfl,rfl,AJI _⟩;exact⟨_,_,_,fW,r1,r2,r3⟩
  ·
   have T6:of+drows.length*r.n+css.flatten.length≤arr.size:=by
    have:(drows.length+Nh.length)*r.n≤cap*r.n:=AJd _ hU;rw[AKk]at this;omega
   have fW:=gB (P:=P) (w:=w) (ty:=ty) kH lG hut hu i1 i2 (b:=b) (o:=of) hn hU (Yo hb T6 hunf) hs.one;have hbF:b∈F:=hdF b (by simp);have YT:∀c,c∈Fs1.flatten∨c∈Fs.flatten∨E2.S c→c≠b:=by
    intro c ja e;subst e;rcases ja with ja|ja|ja
    ·exact(ALt.1 (AIJ.1 ndF).1).1 ja
    ·exact(AIJ.1 ndF).2.2 c (by simp) c ja rfl
    ·exact AIH c hbF ja
   have UJ:∀c,c≠b→(w.setCells b (of+drows.length*r.n) css.flatten).heap[c]? =w.heap[c]?:=fun c hc=>IH _ _ _ _ _ hc
   have hd':=hd.mono (w':=w.setCells b (of+drows.length*r.n) css.flatten) (S':=E2.S) (fun _ h=>h) (fun c hc=>UJ c (YT c (.inr (.inr hc)))) (fun c hc=>UJ c (YT c (.inl hc)));have zz:=hs.mono (w':=w.setCells b (of+drows.length*r.n) css.flatten) (S':=E2.S) (fun _ h=>h) (fun c hc=>UJ c (YT c (.inr (.inr hc)))) (fun c hc=>UJ c (YT c (.inr (.inl hc))));have W0:=hd'.append zz;have ik:Bp (w.setCells b (of+drows.length*r.n) css.flatten) b of (dcss++css).flatten:=by
    rw[AKl];refine Bp.append (XJ hc hb T6 (.inr (.inl (by omega)))) ?_
    rw[hdl];exact PE hb T6
   have how:Ow (w.setCells b (of+drows.length*r.n) css.flatten) E2.S (m+1) (.sl r) [.slice (some ⟨b,of,none⟩) (drows.length+Nh.length) cap] (drows++Nh) (b::(Fs1++Fs).flatten):=by
    simp only[Ow];refine⟨_,cap,by rw[AIj],by rw[AIj];exact hU,.inr ⟨b,of,_,ty0,fr,Fs1++Fs,rfl,Hp _ _ _ _ _ _ _ hb,by rw[Ho];exact LJ,by rw[Ho];exact hunf,rfl,W0.2.1,fun j q G hq hG=> ?_⟩⟩;have hj:=(AG0.1 hq).1;have h1:=W0.1;have nS:j<(dcss++css).length:=by omega
    refine⟨(dcss++css)[j],W0.2.2.1 _ (AIu _),fun x u hx=> ?_,W0.2.2.2 j _ _ _ (AG7 nS) hq hG⟩;have hxl:=(AG0.1 hx).1;rw[W0.2.2.1 _ (AIu _)]at hxl;have:=WN (n:=r.n) (css:=dcss++css) (ex:=[]) (i:=j) W0.2.2.1 (AG7 nS) hxl;rw[AIs,hx]at this;have:=ik _ _ this
    rwa [←AL3]at this
   have az:(b::(Fs1++Fs).flatten)=(b::Fs1.flatten)++Fs.flatten:=by simp
   rw[az]at how;obtain⟨r1,r2,r3⟩:=OG h kT (w':=w.setCells b (of+drows.length*r.n) css.flatten) (d:=m+1) (by omega) how (fun c hc=> .inl ((AIf.1 hc).elim (hdF c) (hsF c))) ndF
    (fun c hc=>by rw[E9];exact ltF c ((AIf.1 hc).elim (hdF c) (hsF c))) (fun c hc hcF=>UJ c (fun e=>hcF (e▸hbF))) (CM _ _ _ _)
   exact⟨_,_,_,fW,r1,r2,r3⟩
 ·
  have hold:drows.length=0∨ ∃b o,ad=some ⟨b,o,none⟩∧Bp w b o dcss.flatten:=by
   rcases hcase with⟨h0,_⟩|⟨b,of,arr,ty0,fr,rfl,hb,LJ,hunf,rfl,hc⟩
   ·exact .inl (by omega)
   ·exact .inr ⟨b,of,rfl,hc⟩
  have fW:=cF (P:=P) (w:=w) (ty:=ty) kH lG hut hu i1 i4 i2 (gQ (P:=P) (cap:=cap) hd.1 hd.2.2.1 hold) hn (by omega) Wt (by omega);have qK:=grownCap_ge w (drows.length+Nh.length) cap e
  generalize hgc:grownCap w (drows.length+Nh.length) cap e=gc at fW qK
  let arr:Array Value:=dcss.flatten.toArray++css.flatten.toArray++Builtin.zeroCells z.cells (gc-(drows.length+Nh.length))
  have Xh:arr.toList=(dcss++css).flatten++(Builtin.zeroCells z.cells (gc-(drows.length+Nh.length))).toList:=by simp[arr]
  have hzl:z.cells.size=r.n:=by rw[←AL7,i5,HG]
  have ANR:arr.size=gc*r.n:=by
   simp only[arr,Array.size_append,List.size_toArray,f_,hzl,Vm,hdl,←AKk];congr 1;omega
  let w':=w.drew.alloc (.cells arr e)
  have new:w'.heap[w.heap.size]? =some (.cells arr e):=by
   show(w.heap.push (.cells arr e))[w.heap.size]? =_
   simp
  have sx:∀c,c<w.heap.size→w'.heap[c]? =w.heap[c]?:=fun c hc=>LR (w:=w) (o:= .cells arr e) hc
  have hR1:∀c∈Fs1.flatten,c∈Fd:=fun c hc=>hp1.mem_iff.2 (by simp only[AIf];exact .inl hc)
  have hd':=hd.mono (w':=w') (S':=E2.S) (fun _ h=>h) (fun c hc=>sx c (Qq.XS c (Qq.st c hc))) (fun c hc=>sx c (ltF c (hdF c (hR1 c hc))));have zz:=hs.mono (w':=w') (S':=E2.S) (fun _ h=>h) (fun c hc=>sx c (Qq.XS c (Qq.st c hc))) (fun c hc=>sx c (ltF c (hsF c hc)));have W0:=hd'.append zz;have how:Ow w' E2.S (m+1) (.sl r) [.slice (some ⟨w.heap.size,0,none⟩) (drows++Nh).length gc] (drows++Nh) (w.heap.size::(Fs1++Fs).flatten):=
   ZJ new Xh W0.1 (by rw[AIj];exact qK) (by omega) (Zn _) W0.2.1 W0.2.2.2
  rw[AIj]at how;have Wn:∀c∈(Fs1++Fs).flatten,c∈Fd++Fs.flatten:=by
   intro c hc;rw[AKl,AIf]at hc;exact AIf.2 (hc.imp (hR1 c) id)
  have nd1:(Fs1++Fs).flatten.Nodup:=by
   rw[AKl];have n1:=(AIJ.1 (hp1.nodup_iff.1 (AIJ.1 ndF).1)).1;exact AIJ.2 ⟨n1,(AIJ.1 ndF).2.1,fun x hx y hy=>(AIJ.1 ndF).2.2 x (hR1 x hx) y hy⟩
  have AFY:∀c∈(Fs1++Fs).flatten,c∈F:=fun c hc=>(AIf.1 (Wn c hc)).elim (hdF c) (hsF c)
  obtain⟨r1,r2,r3⟩:=OG h kT (w':=w') (d:=m+1) (by omega) how (by
    intro c hc;rcases AI5.1 hc with rfl|hc
    ·exact .inr (AJI _)
    ·exact .inl (AFY c hc)) (by
    refine ALt.2 ⟨fun hc=> ?_,nd1⟩;have:=ltF _ (AFY _ hc);omega) (by
    intro c hc;rcases AI5.1 hc with rfl|hc
    ·simp[w']
    ·have:=ltF _ (AFY _ hc)
     simp[w'];omega) (fun c hc _=>sx c hc) ⟨rfl,rfl,rfl,by simp[w']⟩
  exact⟨_,_,_,fW,r1,r2,r3⟩
end
end Go.Fw
end
section
namespace Go.Fw
theorem RH{α β:Type}{args:Array α}{f:α→β}{x y:β}(h:args.toList.map f=[x,y]):∃a b,args= #[a,b]∧f a=x∧f b=y:=by
 obtain⟨l⟩:=args
 match l,h with
 |[a,b],h=>simp at h;exact⟨a,b,rfl,h.1,h.2⟩
theorem RW{α β:Type}{args:Array α}{f:α→β}{x:β}(h:args.toList.map f=[x]):∃a,args= #[a]∧f a=x:=by
 obtain⟨l⟩:=args
 match l,h with
 |[a],h=>simp at h;exact⟨a,rfl,h⟩
section
variable{Y:Type} {P:Program} {T:G8} (hT:Dd P T) {o:Oper} {E:Env} {σ:St} {a:Act} {w:World} {k:K Y} {y:Y}
include hT
theorem j7(h:Rel E σ a w){c:Call}{x1 x2:XV}(ho:o.op= .call c)(hc:c.callee= .builtin .append)(GJ:c.args.toList.map σ.ev=[x1,x2])(e:Wl T c.argTypes σ x1 x2 k=some y):H6 P o E σ a w k y:=by
 obtain⟨o1,o2,hargs',rfl,rfl⟩:=RH GJ;have VB:=h.ev o1;have UI:=h.ev o2;have exec:∀{v w'},(Builtin.append_ c.argTypes o.type #[a.eval o1,a.eval o2]).run P w= .ok v w'→(execOp a.eval o).run P w= .ok (.value v) w':=by
  intro v w' hr;simp only[execOp,ho,resolve,hc,hargs',invoke,builtin,Sem.run_bind,Sem.run_pure,Result.andThen_ok,List.map_toArray,AL4,AMS,hr]
 unfold Wl at e;split at e
 case h_2=>cases e
 rename_i t u kH lG;split at e
 case isFalse=>cases e
 rename_i hu;have hu':(∃e,P.underlying u=some (.slice e))∨P.underlying u=some .string:=by
  rw[AKZ]at hu;exact hu.imp (ZT hT) (Q8 hT)
 split at e
 ·
  rename_i z hz1 hz2;rw[hz1]at VB;rw[hz2]at UI;simp only[AHL]at e;obtain⟨⟨r,rows,Ls,d⟩,e1,e⟩:=e;dsimp only at e;split at e
  case isFalse=>cases e
  rename_i UK;split at e
  case isFalse=>cases e
  rename_i Wt;obtain⟨hd,E',F,css,Fs,R,kT,hp,hs,hn⟩:=XK (P:=P) h.bx (DU.refl _) UI e1;obtain⟨m,rfl⟩:∃m,d=m+1:=⟨d-1,by omega⟩;have ALl:a.eval o1= .slice none 0 0:=VB;obtain⟨v,w',E3,hr,r1,r2,r3⟩:=aa hT h (ty:=o.type) kH lG hu' UK kT (v1:= .slice none 0 0) (Fd:=[]) (drows:=[]) cp hs hn (R:=R) (by simpa using hp) (by simpa using Wt);rw[←ALl]at hr;simp only[AJF]at r1 r3;exact⟨_,_,_,_,_,.inl (exec hr),r1,r3,r2.any,rfl,e⟩
 ·rename_i z1 z2 nT hz1 hz2
  rw[hz1]at VB;rw[hz2]at UI;simp only[AHL]at e;obtain⟨⟨r,rows,Yi,d⟩,e1,e⟩:=e;dsimp only at e;split at e
  case isFalse=>cases e
  rename_i UK;simp only[AHL]at e;obtain⟨⟨q,srows0,Tb,ds⟩,e2,Nh,e3,e⟩:=e;dsimp only at e e3;obtain⟨hqr,e4⟩:=Fa e3;subst hqr;subst e4;dsimp only at e;split at e
  case isFalse=>cases e
  rename_i Wt;obtain⟨hd,F1,F2,k1,ho1⟩:=XU h.bx (DU.refl _) VB e1;obtain⟨hds,E',F3,css,Fs,R,k2,hp,hs,hn⟩:=XK (P:=P) k1.boxes ((DU.refl _).dv k1) UI e2;obtain⟨m,hm⟩:∃m,min d ds=m+1:=⟨min d ds-1,by omega⟩;rw[hm]at e;obtain⟨A,W1,p1,ho1'⟩:=HB (d:=m+1) (by omega) ho1;obtain⟨Gs,W2,p2,zz⟩:=hs.weaken (d':=m) (by omega);have hB:=k2.boxes.perm (G':=(A++Gs.flatten++(R++F2))++(W1++W2)++[]) (by
   rw[AIs,AIs];refine((hp.trans (p2.append_right R)).append (p1.append_right F2)).trans ?_
   classical
   rw[AMR];intro c;simp only[List.count_append];omega)
  obtain⟨hle,Qq⟩:=hB.share;have kT:Ep E w σ.bx σ.bx [] _ Tb (A++Gs.flatten++(R++F2)):=⟨(k1.le.trans k2.le).trans hle,k2.len.trans k1.len,fun b B hb=>(k2.within b B hb).elim .inl (k1.within b B),Qq⟩;have ho2:Ow w (fun c=>E'.S c∨c∈W1++W2) (m+1) (.sl q) [a.eval o1] rows A:=
   Cr (fun c hc=>hc.imp (k2.le.S c) (by simp_all)) (fun _ _=>rfl) (fun _ _=>rfl) ho1'
  have zf:Ds w (fun c=>E'.S c∨c∈W1++W2) m q css srows0 Gs:=zz.mono (fun c hc=>hc.imp id (by simp_all)) (fun _ _=>rfl) (fun _ _=>rfl);obtain⟨v,w',E3,hr,r1,r2,r3⟩:=aa hT h (ty:=o.type) kH lG hu' UK kT ho2 zf hn (AMU _) Wt;exact⟨_,_,_,_,_,.inl (exec hr),r1,r3,r2.any,rfl,e⟩
 ·cases e
end
end Go.Fw
end
section
namespace Go.Fw
theorem bY{P:Program}{w:World}{b o:Nat}{ty:TypeId}{v:Value}(ht:w.there b o v.cells.toList.length)(hi:(P.info? ty).map (·.size)=some v.cells.toList.length)(h1:∀u∈v.cells.toList,u.oneCell' =true):
  (Instr.storeAt ty (.pointer (some ⟨b,o,none⟩)) v).run P w= .ok () (w.setCells b o v.cells.toList):=by
 have:=run_storeCells_cells (P:=P) b o v.cells.toList 0 w (fun j hj=>by simpa using(ht j hj).1) (fun j hj=>by simpa using(ht j hj).2) h1;cases hq:P.info? ty with
 |none=>simp[hq]at hi
 |some i=>
  have hs:v.cells.size=i.size:=by simp[hq]at hi;omega
  simp only[ALW]at this;simp[Instr.storeAt,Instr.sureAddr,storeVar,sizeOf,typeInfo,hq,hs,this]
theorem Ul{E E1 E':Env}{w w':World}{vw Yi Ls:List Bx}{F:AAz}(b0:Nat)(k:Ep E w vw vw [] E1 Yi F)(st:∀c,E.S c→E.T c)(hlen:vw.length≤Ls.length)
  (YO:∀b d r rows,b≠b0→b<vw.length→Ls[b]? =some (.sl d r rows)→Yi[b]? =some (.sl d r rows)) (iN:∀b,b<vw.length→E'.Ff b=E1.Ff b) (WB:∀b,b<vw.length→E'.Ft b=E1.Ft b) (hT:E'.T=E1.T) (hS:E'.S=E1.S)
  (hw:∀c,c<w.heap.size→c∉F→w'.heap[c]? =w.heap[c]?)
  (h0:∀d r rows,Ls[b0]? =some (.sl d r rows)→ ∃d0 MA,vw[b0]? =some (.sl d0 r MA)∧
   ∀p,CI r MA p→ ∀q ys,Ee r MA p=some ⟨q,ys⟩→CI r rows p∧(∃ec,Ee r rows p=some ⟨q,ec⟩∧List.length ec=List.length ys)∧
    ∀h,Gt w (E.Ft b0) p=some h→Gt w' (E'.Ft b0) p=some h):Np E w vw E' w' Ls:=by
 have hB:=k.boxes;obtain⟨Fs,⟨h1,h2⟩,h3⟩:=hB;simp only[AIs]at h3;have uK:∀c,E1.T c→w'.heap[c]? =w.heap[c]?:=fun c hc=>hw c (h3.XS c hc) fun hf=>h3.free c (by simp[hf]) hc
 refine⟨hlen,fun b hb=>by rw[iN b hb,k.le.Ff],fun c hc=>by rw[hT];exact k.le.T c hc,fun c hc=>by rw[hS];exact k.le.S c hc,st,fun c hc=>uK c (k.le.T c hc),fun b d r rows hb e=> ?_⟩;by_cases hb0:b=b0
 ·subst hb0
  exact h0 d r rows e
 have e1:=YO b _ _ _ hb0 hb e;rcases k.within b _ e1 with e2|e2
 ·cases e2
 ·refine⟨d,rows,e2,fun p hp q ys hg=>⟨hp,⟨ys,hg,rfl⟩,fun h' hh=> ?_⟩⟩
  have hF:Fs[b]? =some (Fs[b]'(by have:=(AG0.1 e1).1;omega)):=AG7 _;obtain⟨hd,ho⟩:=h2 b _ _ e1 hF;rw[WB b hb];rw[←k.le.Ft]at hh;refine jE ho (fun c hc=>uK c (h3.st c hc)) (fun c hc=> ?_) hp hg hh;have Wn:c∈Fs.flatten:=AJB.2 ⟨_,AIv hF,hc⟩;exact hw c (h3.lt c (by simp[Wn])) fun hf=>(AIJ.1 h3.nodup).2.2 c Wn c hf rfl
def Bx.map(f:AV→AV):Bx→Bx
 | .mem cs=> .mem (cs.map f)
 |B=>B
theorem CD.AHB{E E':Env}{w w':World}{vw vw' bx:List Bx}{G:AAz}(f:AV→AV)(h:CD E w vw bx G)(k:∀x v,VR E w vw x v→VR E' w' vw' (f x) v)
  (hS:∀c,E.S c→E'.S c) (iN:∀b,b<bx.length→E'.Ff b=E.Ff b) (WB:∀b,b<bx.length→E'.Ft b=E.Ft b)
  (hw:∀c,(E.S c∨(¬E.T c∧c∉G))→c<w.heap.size→w'.heap[c]? =w.heap[c]?)
  (q7:∀F,Sep E w (F++G)→Sep E' w' (F++G)):CD E' w' vw' (bx.map (Bx.map f)) G:=by
 obtain⟨Fs,⟨hl,h1⟩,h2⟩:=h;refine⟨Fs,⟨by simpa using hl,fun n B F hn hF=> ?_⟩,q7 _ h2⟩;rw[AJG,AHF]at hn;obtain⟨B,hn,rfl⟩:=hn;have Dl:=(AG0.1 hn).1;have h3:=h1 n B F hn hF;have mV:∀c∈F,c∈Fs.flatten:=fun c hc=>AJB.2 ⟨F,AIv hF,hc⟩
 have hFw:∀c∈F,w'.heap[c]? =w.heap[c]?:=fun c hc=>hw c (.inr ⟨h2.free c (by simp[mV c hc]),fun hg=>by
  have:=(AIJ.1 h2.nodup).2.2 c (mV c hc) c hg;exact this rfl⟩) (h2.lt c (by simp[mV c hc]))
 have fP:∀c,E.S c→w'.heap[c]? =w.heap[c]?:=fun c hc=>hw c (.inl hc) (h2.XS c (h2.st c hc))
 cases B with
 |mem cs=>
  obtain⟨rfl,arr,ty,fr,ha,hu,hv⟩:=h3;refine⟨by rw[iN n Dl],arr,ty,fr,?_,hu,Bi.IA f k hv⟩;rw[iN n Dl,hFw _ (by simp),ha]
 |sl d r rows=>
  obtain⟨hd,ho⟩:=h3;refine⟨hd,?_⟩;rw[WB n Dl];exact Cr hS fP hFw ho
 |dead=>exact h3
theorem Bx.map_id:∀B:Bx,Bx.map id B=B
 | .mem cs=>by simp[Bx.map]
 | .sl _ _ _=>rfl
 | .dead=>rfl
theorem Tc(bx:List Bx):bx.map (Bx.map id)=bx:=by
 induction bx with
 |nil=>rfl
 |cons B l ih=>simp[ih,Bx.map_id]
theorem ag(b:Nat)(bx:List Bx):bx.map (nE b)=bx.map (Bx.map (Gz b)):=by
 apply AL2;intro B _;cases B<;>rfl
theorem pH{E:Env}{σ:St}{a:Act}{w:World}(h:Rel E σ a w){b j:Nat}{cs VN:List AV}(hb:σ.bx[b]? =some (.mem cs)){xs:List AV}{vs:List Value}(hx:YM E w σ.bx xs vs)(YT:xs≠[])
  (e:Rg cs j xs=some VN):
  w.there (E.Ff b) j vs.length∧Rel E { σ with bx:=σ.bx.set b (.mem VN) } a (w.setCells (E.Ff b) j vs)∧Mb [b] E σ.bx w E (σ.bx.set b (.mem VN)) (w.setCells (E.Ff b) j vs):=by
 have st:=h.bx.st;obtain⟨F,⟨rfl,arr,ty,fr,ha,hu,hv⟩,hB⟩:=h.bx.take hb;simp only[AIs]at hB;have Dl:=(AG0.1 hb).1;rcases Qx hv hx e with⟨h1,h2⟩|⟨h1,_⟩
 case inr=>exact absurd h1 YT
 have T6:j+vs.length≤arr.size:=by
  have l1:=Bi.len hv;have l2:=Bi.len hx;simp only[AL7]at l1;omega
 have P5: ¬E.T (E.Ff b):=hB.qT _ (by simp);have hB0:=hB;have UJ:∀c,c≠E.Ff b→(w.setCells (E.Ff b) j vs).heap[c]? =w.heap[c]?:=fun c hc=>IH _ _ _ _ _ hc
 have hw:∀c,c<w.heap.size→c∉[E.Ff b]→(w.setCells (E.Ff b) j vs).heap[c]? =w.heap[c]?:=fun c _ hc=>UJ c (by simpa using hc)
 have kT:Ep E w σ.bx σ.bx [] E (σ.bx.set b .dead) [E.Ff b]:=⟨Le.refl _,by simp,fun n B hn=>by
  by_cases en:n=b
  ·subst en
   rw[AIp Dl]at hn;exact .inl (by simpa using hn.symm)
  ·rw[AHi (fun h=>en h.symm)]at hn
   exact .inr hn,by simpa using hB⟩
 have keep:Np E w σ.bx E (w.setCells (E.Ff b) j vs) (σ.bx.set b (.mem VN)):=Ul b kT st (by simp) (fun n d r rows hn _ hq=>by
   rw[AHi (by omega)]at hq⊢;exact hq) (fun _ _=>rfl) (fun _ _=>rfl) rfl rfl hw (fun d r rows hq=>by
   rw[AIp Dl]at hq;cases hq)
 refine⟨Yo ha T6 hu,⟨h.Jo,h.tm.imp fun _ _ hq=>Kt keep hq,?_⟩,⟨⟨fun _ h=>h,fun _ h=>h,fun _ h=> .inl h,fun _ h=> .inl h,fun c hc=>UJ c (fun e=>P5 (e▸hc)),(CM _ _ _ _).os,(CM _ _ _ _).tape,(CM _ _ _ _).output,(CM _ _ _ _).size⟩,by simp,fun _ _=>⟨rfl,rfl⟩,fun n hn=>by
  rw[AHi (fun e=>by subst e;rw[hb]at hn;cases hn)];exact hn,fun n B B' fQ hB Md nK=>by
  simp at fQ;rw[AHi (fun e=>fQ e.symm),hB]at Md;cases Md;refine⟨Pg.refl nK,fun c hc=>UJ c (fun e=> ?_)⟩;obtain⟨Fs,⟨f1,f2⟩,f3⟩:=hB0;have Qq:(σ.bx.set b .dead)[n]? =some B:=by rw[AHi (fun e=>fQ e.symm)];exact hB
  have hF:Fs[n]? =some (Fs[n]'(by have:=(AG0.1 Qq).1;omega)):=AG7 _;rcases Wj (f2 n B _ Qq hF) hc with hs|hs
  ·exact P5 (e▸st c hs)
  ·exact(AIJ.1 f3.nodup).2.2 c (AJB.2 ⟨_,AIv hF,hs⟩) (E.Ff b) (by simp) e⟩⟩
 have hT:=hB.turn (E':=E) (w':=w.setCells (E.Ff b) j vs) (vw':=σ.bx.set b (.mem VN)) (fun x v hq=>EB keep hq) (fun _ h=>h) (fun _ _=>rfl) (fun _ _=>rfl) (fun c hc _=>UJ c (fun e=>by
   rcases hc with hc|hc
   ·exact P5 (e▸st c hc)
   ·exact hc.2 (by simp[e]))) (fun F hF=>⟨hF.nodup,hF.free,fun c hc=>by rw[E9];exact hF.lt c hc,hF.st,fun c hc=>by rw[E9];exact hF.XS c hc⟩)
 have:=CD.put (b:=b) (B:= .mem VN) (F:=[E.Ff b]) (G:=[]) (by simpa using hT) (by rw[AIp Dl]) ⟨rfl,D5 arr j vs,ty,fr,Hp _ _ _ _ _ _ _ ha,by rw[Ho];exact hu,h1.imp fun _ _ hq=>EB keep hq⟩;rw[AMF]at this;exact this
theorem Q1:∀{r:Ty} {j j':Nat} {x:r.D} {t:Ty} {y:t.D} {x':r.D},Cb r j x t y=some x'→j'≠j→Ai r j' x' =Ai r j' x
 | .cons c r,0,j',x,t,y,x',e,hj=>by
  simp only[Cb]at e;split at e
  ·rename_i h
   subst h;simp only[AG9]at e;subst e;cases j' with
   |zero=>exact absurd rfl hj
   |succ j' =>simp[Ai]
  ·cases e
 | .cons c r,j+1,j',x,t,y,x',e,hj=>by
  simp only[Cb,AHF]at e;obtain⟨z,e1,rfl⟩:=e;cases j' with
  |zero=>simp[Ai]
  |succ j' =>
   simp only[Ai];exact Q1 e1 (by omega)
 | .unit,_,_,_,_,_,_,e,_=>by simp[Cb]at e
 | .int k,0,j',x,t,y,x',e,hj=>by cases j' with
  |zero=>exact absurd rfl hj
  |succ j' =>simp[Ai]
 | .bool,0,j',x,t,y,x',e,hj=>by cases j' with
  |zero=>exact absurd rfl hj
  |succ j' =>simp[Ai]
 | .str,0,j',x,t,y,x',e,hj=>by cases j' with
  |zero=>exact absurd rfl hj
  |succ j' =>simp[Ai]
 | .sl _,0,j',x,t,y,x',e,hj=>by cases j' with
  |zero=>exact absurd rfl hj
  |succ j' =>simp[Ai]
 | .int _,_+1,_,_,_,_,_,e,_=>by simp[Cb]at e
 | .bool,_+1,_,_,_,_,_,e,_=>by simp[Cb]at e
 | .str,_+1,_,_,_,_,_,e,_=>by simp[Cb]at e
 | .sl _,_+1,_,_,_,_,_,e,_=>by simp[Cb]at e
theorem PQ:∀{r:Ty} {j:Nat} {x:r.D} {t:Ty} {y:t.D} {x':r.D},Cb r j x t y=some x'→Ai r j x' =some ⟨t,y⟩∧ ∃y0:t.D,Ai r j x=some ⟨t,y0⟩
 | .cons c r,0,x,t,y,x',e=>by
  simp only[Cb]at e;split at e
  ·rename_i h
   subst h;simp only[AG9]at e;subst e;exact⟨rfl,_,rfl⟩
  ·cases e
 | .cons c r,j+1,x,t,y,x',e=>by
  simp only[Cb,AHF]at e;obtain⟨z,e1,rfl⟩:=e;simp only[Ai];exact PQ e1
 | .unit,_,_,_,_,_,e=>by simp[Cb]at e
 | .int k,0,x,t,y,x',e=>by
  simp only[Cb]at e;split at e
  ·rename_i h;subst h;cases e;exact⟨rfl,_,rfl⟩
  ·cases e
 | .bool,0,x,t,y,x',e=>by
  simp only[Cb]at e;split at e
  ·rename_i h;subst h;cases e;exact⟨rfl,_,rfl⟩
  ·cases e
 | .str,0,x,t,y,x',e=>by
  simp only[Cb]at e;split at e
  ·rename_i h;subst h;cases e;exact⟨rfl,_,rfl⟩
  ·cases e
 | .sl _,0,x,t,y,x',e=>by
  simp only[Cb]at e;split at e
  ·rename_i h;subst h;cases e;exact⟨rfl,_,rfl⟩
  ·cases e
 | .int _,_+1,_,_,_,_,e=>by simp[Cb]at e
 | .bool,_+1,_,_,_,_,e=>by simp[Cb]at e
 | .str,_+1,_,_,_,_,e=>by simp[Cb]at e
 | .sl _,_+1,_,_,_,_,e=>by simp[Cb]at e
theorem aG{r:Ty}{rows:List r.D}{i k:Nat}{x:r.D}(hi:i<rows.length):rowAt r (rows.set i x) k=if k=i then x else rowAt r rows k:=by
 unfold rowAt;rw[ALu,ALu,AKW];by_cases e:k=i
 ·subst e;simp[hi]
 ·rw[AHA (fun h=>e h.symm),AHA e]
theorem fH:∀{p:List bE} {r:Ty} {rows B3:List r.D} {q:Ty} {ys ec:List q.D},Ee r rows p=some ⟨q,ys⟩→ec.length=ys.length→ew r rows p q ec=some B3→B3.length=rows.length
 |[],r,rows,B3,q,ys,ec,h1,h2,h3=>by
  simp only[Ee,AG9,AIx]at h1;obtain⟨rfl,h1⟩:=h1;obtain rfl:=AJE h1;simp only[ew,AMP,MM,AG9]at h3;rw[←h3];exact h2
 |s::p,r,rows,B3,q,ys,ec,h1,h2,h3=>by
  simp only[ew]at h3;split at h3
  ·simp only[AHL,AHF]at h3
   obtain⟨_,_,_,_,rfl⟩:=h3;simp
  ·cases h3
theorem an{t:Ty}(ht:t.scalar=true){y:t.D}{q:Ty}{i j:Nat}:∀{p':List bE} {r:Ty} {rows B3:List r.D} {p:List bE} {ys:List q.D} {Ts:q.D},CI r rows p→Ee r rows p=some ⟨q,ys⟩→i<ys.length→
  Cb q j (rowAt q ys i) t y=some Ts→ew r rows p q (ys.set i Ts)=some B3→CI r rows p'→ ∀q' zs,Ee r rows p' =some ⟨q',zs⟩→
   CI r B3 p'∧ ∃zs',Ee r B3 p' =some ⟨q',zs'⟩∧List.length zs' =List.length zs
 |[],r,rows,B3,p,ys,Ts,_,hg,hi,hc,hs,_,q',zs,jn=>by
  simp only[Ee,AG9,AIx]at jn;obtain⟨rfl,jn⟩:=jn;obtain rfl:=AJE jn;exact⟨by simp[CI],B3,by simp[Ee],fH hg (by simp) hs⟩
 |s'::p',r,rows,B3,p,ys,Ts,hp,hg,hi,hc,hs,hp',q',zs,jn=>by
  have hlen:=fH hg (by simp) hs;simp only[CI]at hp'⊢;obtain⟨g1,g2,g3⟩:=hp';simp only[Ee]at jn⊢;split at jn
  case h_2=>cases jn
  rename_i q0 x0 V5;rw[V5]at g3;dsimp only at g3;have key:∃x1,Ai r s'.j (rowAt r B3 s'.i)=some ⟨.sl q0,x1⟩∧CI q0 x1 p'∧ ∃zs',Ee q0 x1 p' =some ⟨q',zs'⟩∧List.length zs' =List.length zs:=by
   have same:Ai r s'.j (rowAt r B3 s'.i)=some ⟨.sl q0,x0⟩→ ∃x1,Ai r s'.j (rowAt r B3 s'.i)=some ⟨.sl q0,x1⟩∧CI q0 x1 p'∧ ∃zs',Ee q0 x1 p' =some ⟨q',zs'⟩∧List.length zs' =List.length zs:=
    fun h=>⟨x0,h,g3,zs,jn,rfl⟩
   cases p with
   |nil=>
    simp only[Ee,AG9,AIx]at hg;obtain⟨rfl,hg⟩:=hg;obtain rfl:=AJE hg;simp only[ew,AMP,MM,AG9]at hs;subst hs;apply same;rw[aG hi];split
    ·rename_i e
     subst e;by_cases ej:s'.j=j
     ·obtain⟨_,y0,h0⟩:=PQ hc
      rw[ej,h0]at V5;simp only[AG9,AIx]at V5;obtain⟨rfl,_⟩:=V5;simp[Ty.scalar]at ht
     ·rw[Q1 hc ej];exact V5
    ·exact V5
   |cons s p=>
    simp only[CI]at hp;obtain⟨k1,k2,k3⟩:=hp;simp only[Ee]at hg;split at hg
    case h_2=>cases hg
    rename_i r' x hcx;rw[hcx]at k3;dsimp only at k3;simp only[ew,hcx,AHL,AHF]at hs;obtain⟨x',hs1,row2,zf,rfl⟩:=hs;rw[aG k1];rw[aG k1]at same;split
    ·rename_i e
     rw[AG5 e]at same;rw[e]at V5;by_cases ej:s'.j=s.j
     ·rw[ej]at V5⊢
      rw[hcx]at V5;simp only[AG9,AIx,Ty.sl.injEq]at V5;obtain⟨rfl,V5⟩:=V5;obtain rfl:=AJE V5;obtain⟨m1,m2⟩:=an ht k3 hg hi hc hs1 g3 q' zs jn;exact⟨x',(PQ zf).1,m1,m2⟩
     ·exact same (by rw[Q1 zf ej];exact V5)
    ·rename_i e
     rw[AHA e]at same;exact same V5
  obtain⟨x1,e1,e2,e3⟩:=key;rw[e1];exact⟨⟨by omega,g2,e2⟩,e3⟩
theorem gb{w w':World}{B:Nat→Prop}(SF:∀A,w'.cell? A=w.cell? A∨ ∃v,w'.cell? A=some v∧isSlice v=false):∀{p:List bE} {r:Ty} {h:Value} {rows:List r.D} {hh:Value},
  Rd w' B (.sl r) [h] rows→CI r rows p→Gt w h p=some hh→Gt w' h p=some hh
 |[],_,h,_,hh,_,_,e=>by rw[B6]at e⊢;exact e
 |s::p,r,h,rows,hh,hr,hp,e=>by
  simp only[CI]at hp;obtain⟨hi,LJ,hp⟩:=hp;simp only[Rd]at hr;obtain⟨a,cap,e1,_,hr⟩:=hr;obtain rfl:=(List.cons.inj e1).1;rcases hr with hr|⟨b,o,rfl,hb,hr⟩
  ·omega
  obtain⟨cs,hl,hc,hrow⟩:=hr s.i _ (MS hi);split at hp
  case h_2=>exact hp.elim
  rename_i q x V5;obtain⟨v,hv,hrv⟩:=Wi hrow V5;have hcv:=hc _ _ hv;rw[←LJ]at hcv;simp only[Gt]at e⊢;split at e
  case h_2=>cases e
  rename_i v0 hv0;rcases SF ⟨b,o+s.i*s.sz+s.j,none⟩with h1|⟨u,h1,h2⟩
  ·rw[h1,hv0]
   rw[h1,hv0]at hcv;cases hcv;exact gb SF hrv hp e
  ·rw[hcv]at h1
   cases h1;simp only[Rd]at hrv;obtain⟨_,_,e2,_⟩:=hrv;simp only[AJD,AKa]at e2;subst e2;simp[isSlice]at h2
theorem qt{E E':Env}{w w':World}{vw vw':List Bx}{b d d':Nat}{r:Ty}{rows B3:List r.D}(k:Np E w vw E' w' (vw'.set b .dead))(hb:vw[b]? =some (.sl d r rows))(np:vw'[b]? =some (.sl d' r B3))(hl:B3.length=rows.length)
  (hh:E'.Ft b=E.Ft b) {x:AV} {v:Value} (h:VR E w vw x v):VR E' w' vw' (Gz b x) v:=by
 have h1:=EB k h;have UJ:∀{b'},b'≠b→(vw'.set b .dead)[b']? =vw'[b']?:=fun e=>AHi (fun h=>e h.symm)
 cases x with
 |v t x=>exact h1
 |sl s r x=>exact h1
 |nil=>exact h1
 |FY c j=>exact⟨by simpa using h1.1,h1.2⟩
 |KB s r x j=>exact h1
 |fn f G6=>exact⟨fun c hc=>by simpa using h1.1 c hc,h1.2⟩
 |gf f rows=>exact h1
 |mT=>exact h1
 |undef=>trivial
 |ref c p=>
  cases p with
  |nil=>
   simp only[Gz];by_cases e:c=b
   ·subst e
    simp only[VR,hb,np]at h⊢;refine⟨h.1,by simp[CI],⟨_,rfl⟩,?_⟩;rw[B6,hh,←B6 (w:=w) (h:=E.Ft c)];exact h.2.2.2
   ·simp only[VR,UJ e]at h1⊢;exact h1
  |cons s p=>
   simp only[Gz];split
   ·trivial
   ·rename_i e
    simp only[VR,UJ e]at h1⊢;exact h1
 |win c p off n=>
  cases p with
  |nil=>
   simp only[Gz];by_cases e:c=b
   ·subst e
    simp only[VR,hb,np]at h⊢;obtain⟨h0,_,q,ys,a,len,cap,e1,e2,e3,e4⟩:=h;simp only[Ee,AG9,AIx]at e1;obtain⟨rfl,e1⟩:=e1;obtain rfl:=AJE e1;refine⟨h0,by simp[CI],r,B3,a,len,cap,rfl,by rw[hl];exact e2,?_,e4⟩;rw[B6,hh,←B6 (w:=w) (h:=E.Ft c)];exact e3
   ·simp only[VR,UJ e]at h1⊢;exact h1
  |cons s p=>
   simp only[Gz];split
   ·trivial
   ·rename_i e
    simp only[VR,UJ e]at h1⊢;exact h1
 |Gd c p i sz j=>
  cases p with
  |nil=>
   simp only[Gz];by_cases e:c=b
   ·subst e
    simp only[VR,hb,np]at h⊢;obtain⟨h0,_,q,ys,bb,o,len,cap,e1,e2,e3,e4⟩:=h;simp only[Ee,AG9,AIx]at e1;obtain⟨rfl,e1⟩:=e1;obtain rfl:=AJE e1;refine⟨h0,by simp[CI],r,B3,bb,o,len,cap,rfl,by rw[hl];exact e2,?_,e4⟩;rw[B6,hh,←B6 (w:=w) (h:=E.Ft c)];exact e3
   ·simp only[VR,UJ e]at h1⊢;exact h1
  |cons s p=>
   simp only[Gz];split
   ·trivial
   ·rename_i e
    simp only[VR,UJ e]at h1⊢;exact h1
theorem rT{E E':Env}{w w':World}{vw vw':List Bx}{b:Nat}(k:∀x v,VR E w vw x v→VR E' w' vw' (Gz b x) v){x:XV}{v:Value}(h:XR E w vw x v):XR E' w' vw' (ib b x) v:=by
 cases x with
 |c x=>exact k x v h
 |agg l=>
  obtain⟨vs,rfl,RI⟩:=h;exact⟨vs,rfl,Bi.IA _ k RI⟩
 |Ju l=>
  obtain⟨vs,rfl,RI⟩:=h;refine⟨vs,rfl,Bi.IA _ (fun x v hx=> ?_) RI⟩;cases x with
  |inl x=>exact k x v hx
  |inr q=>
   obtain⟨us,rfl,hus⟩:=hx;exact⟨us,rfl,Bi.IA _ k hus⟩
end Go.Fw
end
section
namespace Go.Fw
theorem eG{w:World}{vw:List Bx}{E:Env}{bx:List Bx}{G:AAz}(h:CD E w vw bx G)(hw:DU bx vw){d:Nat}(hd:1≤d){q:Ty}{old:q.D}{j:Nat}{x:XV}{v:Value}(hv:XR E w vw x v){Ts:q.D}{Ls:List Bx}{d':Nat}
  (e:cm d q old j x bx=some (Ts,Ls,d')):1≤d'∧d'≤d∧ ∃E' F,Ep E w vw bx G E' Ls F∧
   ((j=0∧x.plain=false∧Ow w E'.S (d'-1) q v.cells.toList Ts F)∨(∃t y,v.cells.toList=[v]∧Ow w E'.S (d'-1) t [v] y F∧Cb q j old t y=some Ts∧(x.plain=true→t.scalar=true∧isSlice v=false))):=by
 unfold cm at e;split at e
 ·rename_i l
  split at e
  case isFalse=>cases e
  rename_i hj;obtain⟨vs,rfl,RI⟩:=hv;obtain⟨h1,h2,E',F,h3,h4⟩:=TO h hw hd RI e;exact⟨h1,h2,E',F,h3,.inl ⟨hj,rfl,h4⟩⟩
 ·rename_i x
  split at e
  case h_2=>cases e
  rename_i t y0 hc;simp only[AHL,AHF,AJH]at e;obtain⟨⟨y,Yi,d1⟩,e1,row,e2,rfl,rfl,rfl⟩:=e;dsimp only at e2;have VM:VR E w vw x v:=hv;have hk:x.known=true:=by cases x<;>simp_all[AV.known,V9]
  obtain⟨h1,h2,E',F,h3,h4⟩:=Un h hw hd VM e1;refine⟨h1,h2,E',F,h3,.inr ⟨t,y,by rw[(iY VM hk).2],h4,e2,fun hp=> ?_⟩⟩;cases x with
  |v u z=>
   simp only[V9,AHF,AJH]at e1;obtain⟨z',e3,_⟩:=e1;obtain⟨rfl,_⟩:=Fa e3;obtain⟨hs,hr⟩:=VM;refine⟨hs,?_⟩;cases u<;>simp_all[Ty.scalar,Rd]<;>rfl
  |_=>simp[XV.plain]at hp
 ·cases e
theorem df{f:AV→AV}{bx:List Bx}{b d:Nat}{r:Ty}{rows:List r.D}:(bx.set b (.sl d r rows)).map (Bx.map f)=(bx.map (Bx.map f)).set b (.sl d r rows):=by
 rw[List.map_set];rfl
theorem qg{f:AV→AV}{bx:List Bx}{n d:Nat}{r:Ty}{rows:List r.D}(h:(bx.map (Bx.map f))[n]? =some (.sl d r rows)):bx[n]? =some (.sl d r rows):=by
 rw[AJG,AHF]at h;obtain⟨B,h1,h2⟩:=h;cases B with
 |mem cs=>simp[Bx.map]at h2
 |sl d' r' B3=>rw[h1];exact congrArg some h2
 |dead=>simp[Bx.map]at h2
theorem gk{E:Env}{σ:St}{a:Act}{w:World}(h:Rel E σ a w){b i sz j:Nat}{p:List bE}{va v:Value}(xV:VR E w σ.bx (.Gd b p i sz j) va){x:XV}(hv:XR E w σ.bx x v)(h1c:∀u∈v.cells.toList,u.oneCell' =true)
  {σ':St} (e:X5 σ (.c (.Gd b p i sz j)) x=some σ'):
  ∃bb oo E',va= .pointer (some ⟨bb,oo,none⟩)∧w.there bb oo v.cells.toList.length∧Rel E' σ' a (w.setCells bb oo v.cells.toList)∧Mb [b] E σ.bx w E' σ'.bx (w.setCells bb oo v.cells.toList)∧σ'.tm.length=σ.tm.length:=by
 simp only[X5]at e;split at e
 case h_2=>cases e
 rename_i d r rows hb;split at e
 case isFalse=>cases e
 rename_i rz;simp only[AHL]at e;obtain⟨⟨q,ys⟩,hg,e⟩:=e;dsimp only at e;split at e
 case isFalse=>cases e
 rename_i LJ;simp only[AHL,AHF]at e;obtain⟨⟨Ts,Tb,d2⟩,e1,B3,e2,e3⟩:=e;dsimp only at e1 e2 e3;have st:=h.bx.st;simp only[VR,hb]at xV;obtain⟨_,hp,q1,ys1,bb,o,len,cap,g1,hi,g3,rfl⟩:=xV;rw[hg]at g1;simp only[AG9,AIx]at g1;obtain⟨rfl,g1⟩:=g1;obtain rfl:=AJE g1;have Dl:=(AG0.1 hb).1;obtain⟨Gb,⟨hd1,ho⟩,hB⟩:=h.bx.take hb;have Xc:DU (σ.bx.set b .dead) σ.bx:=fun n B hn=>by
  by_cases en:n=b
  ·subst en
   rw[AIp Dl]at hn;exact .inl (by simpa using hn.symm)
  ·rw[AHi (fun h=>en h.symm)]at hn
   exact .inr hn
 obtain⟨hd2,hd3,E1,Fx,k1,hrow⟩:=eG hB Xc (by omega) hv e1;obtain⟨A,W,pG,ho2⟩:=HB (d:=d2+p.length) (by omega) ho;have Qq:=k1.boxes.perm (G':=(Fx++A)++W++[]) (by
  rw[AIs,AIs,AHH];exact AI_ _ pG)
 obtain⟨hle,hB3⟩:=Qq.share;simp only[AIs]at hB3
 generalize hE3:({ E1 with S:=fun c=>E1.S c∨c∈W,T:=fun c=>E1.T c∨c∈W }:Env)=E3 at hle hB3
 have bd:Le E E3:=k1.le.trans hle;have ho3:Ow w E3.S (d2+p.length) (.sl r) [E.Ft b] rows A:=Cr (fun c hc=>by
  subst hE3;exact hc.imp (k1.le.S c) id) (fun _ _=>rfl) (fun _ _=>rfl) ho2
 obtain⟨h',F1,F2,m1,m2,m3,m4⟩:=dh ho3 hp hg (by omega);rw[g3]at m1;cases m1;obtain⟨m,rfl⟩:∃m,d2=m+1:=⟨d2-1,by omega⟩;rw[show m+1+p.length-p.length=m+1 by omega]at m2 m4;simp only[Nat.add_sub_cancel]at hrow;obtain⟨b1,o1,arr,ty,fr,cs,G,R,n1,n2,n3,n4,n5,n6,n7,n8,n9⟩:=iZ m2 hi;simp only[AG9,Addr.mk.injEq,AKa]at n1;obtain⟨rfl,rfl⟩:=n1;subst LJ;have hAp:A.Perm (G++(bb::R)++F2):=m3.trans (n8.append_right F2);obtain⟨Fs,hFs1,hFs2⟩:=hB3;have hbA:bb∈A:=hAp.mem_iff.2 (by simp);have P5: ¬E3.T bb:=hFs2.free bb (by simp[hbA]);have cX: ¬E3.S bb:=fun hc=>P5 (hFs2.st bb hc)
 have nd:(Fx++(G++(bb::R)++F2)).Nodup:=(AI_ Fx hAp).nodup_iff.1 (AIJ.1 hFs2.nodup).2.1;have hnx:bb∉Fx:=fun hc=>(AIJ.1 nd).2.2 bb hc bb (by simp) rfl
 have hnG:bb∉G:=fun hc=>(AIJ.1 (AIJ.1 (AIJ.1 nd).2.1).1).2.2 bb hc bb (by simp) rfl
 have hnR:bb∉R:=(ALt.1 (AIJ.1 (AIJ.1 (AIJ.1 nd).2.1).1).2.1).1;have hn2:bb∉F2:=fun hc=>(AIJ.1 (AIJ.1 nd).2.1).2.2 bb (by simp) bb hc rfl
 have Vm:j+v.cells.toList.length≤q.n:=by
  rcases hrow with⟨rfl,_,ho4⟩|⟨t,y,uA,ho4,Pd,_⟩
  ·rw[RM ho4];omega
  ·rw[uA]
   obtain⟨_,y0,hc0⟩:=PQ Pd;obtain⟨u,_,_,hu,_⟩:=Wq n7 hc0;have:=(AG0.1 hu).1;simp;omega
 have T6:o+i*q.n+j+v.cells.toList.length≤arr.size:=by omega
 let w':=w.setCells bb (o+i*q.n+j) v.cells.toList
 have UJ:∀c,c≠bb→w'.heap[c]? =w.heap[c]?:=fun c hc=>IH _ _ _ _ _ hc
 have fP:∀c,E3.S c→w'.heap[c]? =w.heap[c]?:=fun c hc=>UJ c (fun e=>cX (e▸hc))
 have np:=Hp v.cells.toList (o+i*q.n+j) w bb arr ty fr n2;have SF:∃VN G' D0,VN.length=q.n∧Bp w' bb (o+i*q.n) VN∧Ow w' E3.S m q VN Ts G'∧(Fx++G).Perm (G'++D0):=by
  rcases hrow with⟨rfl,_,ho4⟩|⟨t,y,uA,ho4,Pd,_⟩
  ·refine⟨v.cells.toList,Fx,G,RM ho4,PE n2 T6,Cr (fun c hc=>hle.S c hc) (fun c hc=>UJ c (fun e=>cX (e▸hle.S c hc))) (fun c hc=>UJ c (fun e=>hnx (e▸hc))) ho4,AMU _⟩
  ·obtain⟨_,y0,hc0⟩:=PQ Pd
   obtain⟨u,K1,K2,z1,z2,z3,z4⟩:=Wq n7 hc0;have ALU:bb∉K2:=fun hc=>hnG (z3.mem_iff.2 (by simp[hc]))
   obtain⟨F',f1,f2⟩:=z4 w' E3.S v y Fx Ts (fun _ hc=>hc) fP (fun c hc=>UJ c (fun e=>ALU (e▸hc)))
    (Cr (fun c hc=>hle.S c hc) (fun c hc=>UJ c (fun e=>cX (e▸hle.S c hc))) (fun c hc=>UJ c (fun e=>hnx (e▸hc))) ho4) Pd
   refine⟨cs.set j v,F',K1,by simpa using n5,fun x u' hx=> ?_,f2,?_⟩
   ·rw[AKW]at hx
    split at hx
    ·rename_i ejx
     subst ejx;split at hx
     ·cases hx
      have:=PE (w:=w) (b:=bb) (o:=o+i*q.n+j) (vs:=v.cells.toList) n2 T6 0 v (by rw[uA];rfl);simpa using this
     ·cases hx
    ·rename_i ejx
     have hold:=n6 x u' hx;rw[JS n2]at hold;rw[JS np,QZ T6,AHA (fun hh=>by rw[uA]at hh;simp only[AIK,AI4]at hh;omega),hold]
   ·refine(AI_ Fx z3).trans ?_
    refine List.Perm.trans ?_ (f1.symm.append_right K1)
    rw[AHH];exact AI_ _ AJA
 obtain⟨VN,G',D0,c1,c2,c3,c4⟩:=SF;obtain⟨ar,f1,f2⟩:=n9 w' E3.S (D5 arr (o+i*q.n+j) v.cells.toList) VN Ts G' (fun _ hc=>hc) fP (fun c hc=>UJ c (fun e=>hnR (e▸hc))) np (Ho _ _ _) (fun k hk=>by
  rw[QZ T6,AHA (by omega)]) c1 c2 c3
 obtain⟨F',f3,f4⟩:=m4 w' E3.S (ys.set i Ts) ar B3 (fun _ hc=>hc) fP (fun c hc=>UJ c (fun e=>hn2 (e▸hc))) f2 e2;have az:(Fx++A).Perm (F'++D0):=by
  have p1:F'.Perm (G'++(bb::R)++F2):=f3.trans (f1.append_right F2);refine(AI_ Fx hAp).trans (List.Perm.trans ?_ (p1.symm.append_right D0))
  classical
  rw[AMR];intro c;have h4:=(AMR.1 c4) c;simp only[List.count_append]at h4⊢;omega
 have AJO:bb∈F':=(f3.trans (f1.append_right F2)).mem_iff.2 (by simp);have hB4:CD E3 w σ.bx Tb F':=by
  have:CD E3 w σ.bx Tb (F'++D0):=CD.perm (G:=Fx++A) ⟨Fs,hFs1,hFs2⟩ az;exact this.drop
 have ax:Tb.length=σ.bx.length:=by rw[k1.len];simp
 have AIT:Tb[b]? =some .dead:=by
  obtain⟨B,hB⟩:∃B,Tb[b]? =some B:=⟨_,AG7 (by omega)⟩;rcases k1.within b B hB with e|e
  ·rw[hB,e]
  ·rw[AIp Dl]at e;rw[hB];exact e.symm
 have hrl:B3.length=rows.length:=fH hg (by simp) e2;have kT:∀E0,Le E0 E3→Ep E0 w σ.bx σ.bx [] E3 Tb (Fx++A):=fun E0 hl=>⟨hl,ax,fun n B hn=>by
  rcases k1.within n B hn with e|e
  ·exact .inl e
  ·exact(Xc n B e),⟨Fs,hFs1,by simpa using hFs2⟩⟩
 have WB:∀n,E3.Ft n=E.Ft n:=fun n=>by rw[bd.Ft]
 have hww:∀c,c<w.heap.size→c∉Fx++A→w'.heap[c]? =w.heap[c]?:=fun c _ hc=>UJ c (fun e=>hc (by rw[e];simp[hbA]))
 have base:Wx E w E3 w':=⟨bd.T,bd.S,bd.zM,bd.nc,fun c hc=>UJ c (fun e=>P5 (e▸bd.T c hc)),(CM _ _ _ _).os,(CM _ _ _ _).tape,(CM _ _ _ _).output,(CM _ _ _ _).size⟩;have finish:∀(f:AV→AV) (g:XV→XV),(∀E0,Le E0 E3→(∀c,E0.S c→E0.T c)→ ∀x v,VR E0 w σ.bx x v→VR E3 w' ((Tb.map (Bx.map f)).set b (.sl (m+1+p.length) r B3)) (f x) v)→
   (∀x v,XR E w σ.bx x v→XR E3 w' ((Tb.map (Bx.map f)).set b (.sl (m+1+p.length) r B3)) (g x) v)→
   Rel E3 { tm:=σ.tm.map g,bx:=(Tb.map (Bx.map f)).set b (.sl (m+1+p.length) r B3) } a w':=by
  intro f g hf hg;refine⟨h.Jo,Bi.IA _ hg h.tm,?_⟩;have hT:=hB4.AHB (E':=E3) (w':=w') (vw':=(Tb.map (Bx.map f)).set b (.sl (m+1+p.length) r B3)) f (hf E3 (Le.refl _) hFs2.st) (fun _ h=>h) (fun _ _=>rfl) (fun _ _=>rfl) (fun c hc _=>UJ c (fun e=>by
    rcases hc with hc|hc
    ·exact cX (e▸hc)
    ·exact hc.2 (by rw[e];exact AJO))) (fun F hF=>⟨hF.nodup,hF.free,fun c hc=>by rw[E9];exact hF.lt c hc,hF.st,fun c hc=>by rw[E9];exact hF.XS c hc⟩)
  refine CD.put (F:=F') (G:=[]) (by simpa using hT) (by rw[AJG,AIT];rfl) ⟨by omega,?_⟩;rw[WB];exact f4
 have yC:∀f:AV→AV,Mb [b] E σ.bx w E3 ((Tb.map (Bx.map f)).set b (.sl (m+1+p.length) r B3)) w':=fun f=>⟨base,by simp[ax],fun n _=>⟨by rw[bd.Ff],WB n⟩,fun n hn=>by
  have fQ:n≠b:=fun e=>by subst e;rw[hb]at hn;cases hn
  have jd:=(AG0.1 hn).1;rw[AHi (fun e=>fQ e.symm),AJG];obtain⟨B,hB⟩:∃B,Tb[n]? =some B:=⟨_,AG7 (by omega)⟩;have hBd:B= .dead:=by
   rcases(kT E bd).within n B hB with e|e
   ·exact e
   ·rw[hn]at e;cases e;rfl
  rw[hB,hBd];rfl,fun n B B' fQ hB Md nK=>by
  simp at fQ;have jd:=(AG0.1 hB).1;rw[AHi (fun e=>fQ e.symm),AJG]at Md;obtain⟨B2,Qq⟩:∃B2,Tb[n]? =some B2:=⟨_,AG7 (by omega)⟩;rw[Qq]at Md;have Md:Bx.map f B2=B':=by simpa using Md
  have hBB:B2=B:=by
   rcases(kT E bd).within n B2 Qq with e|e
   ·subst e;exact absurd Md.symm nK
   ·rw[hB]at e;cases e;rfl
  subst hBB;refine⟨?_,fun c hc=>UJ c (fun e=> ?_)⟩
  ·subst Md
   cases B2 with
   |mem cs=>trivial
   |sl d r rows=>rfl
   |dead=>exact absurd rfl nK
  ·have hF:Fs[n]? =some (Fs[n]'(by have:=(AG0.1 Qq).1;rw[hFs1.1];exact this)):=AG7 _
   have XI:lS E3 w n B2 c:=by
    cases B2 with
    |mem cs=>simp only[lS]at hc⊢;rw[bd.Ff];exact hc
    |sl d r rows=>simp only[lS]at hc⊢;rw[WB];exact hc
    |dead=>exact hc
   rcases Wj (hFs1.2 n B2 _ Qq hF) XI with hs|hs
   ·exact cX (e▸hs)
   ·exact(AIJ.1 hFs2.nodup).2.2 c (AJB.2 ⟨_,AIv hF,hs⟩) bb (by simp[hbA]) e⟩
 refine⟨bb,o+i*q.n+j,E3,rfl,Yo (k:=0) n2 T6 n3,?_,?_,?_⟩
 ·split at e3
  ·rename_i AIq
   have h0:∀E0,Le E0 E3→(∀c,E0.S c→E0.T c)→Np E0 w σ.bx E3 w' (Tb.set b (.sl (m+1+p.length) r B3)):=by
    intro E0 hl st0;refine Ul b (kT E0 hl) st0 (by simp[ax]) (fun n d r rows hn _ hq=>by
      rw[AHi (fun e=>hn e.symm)]at hq;exact hq) (fun _ _=>rfl) (fun _ _=>rfl) rfl rfl hww (fun d0 r0 MA hq=> ?_)
    rw[AIp (by omega)]at hq;simp only[AG9,Bx.sl.injEq]at hq;obtain⟨rfl,rfl,hq⟩:=hq;obtain rfl:=AJE hq;refine⟨d,rows,hb,fun p' hp' q' zs jn=> ?_⟩;rcases hrow with⟨_,hpf,_⟩|⟨t,y,uA,ho4,Pd,hsc⟩
    ·rw[AIq]at hpf;cases hpf
    obtain⟨hs1,zf⟩:=hsc AIq;have hk:=an hs1 hp hg hi Pd e2 hp' q' zs jn;refine⟨hk.1,hk.2,fun hh hhe=> ?_⟩;rw[WB];rw[←hl.Ft,WB]at hhe;refine gb (fun Ad=> ?_) (SV f4) hk.1 hhe;by_cases eA:Ad.block=bb∧Ad.spot=none∧Ad.off=o+i*q.n+j
    ·right
     obtain⟨ab,ao,asp⟩:=Ad;simp only at eA;rw[eA.1,eA.2.1,eA.2.2];refine⟨v,?_,zf⟩;have:=PE (w:=w) (b:=bb) (o:=o+i*q.n+j) (vs:=v.cells.toList) n2 T6 0 v (by rw[uA];rfl);simpa using this
    ·left
     refine World.cell?_setCells_out bb v.cells.toList (o+i*q.n+j) w Ad (fun q1 q2=> ?_)
     rw[uA];simp only[AIK,AI4];have:Ad.off≠o+i*q.n+j:=fun q3=>eA ⟨q1,q2,q3⟩
     omega
   have:=finish id id (fun E0 hl st0 x v hx=>by rw[Tc];exact EB (h0 E0 hl st0) hx) (fun x v hx=>by rw[Tc];exact Kt (h0 E bd st) hx);rw[Tc,List.map_id]at this;rw[←e3];exact this
  ·have h0:∀E0,Le E0 E3→(∀c,E0.S c→E0.T c)→ ∀x v,VR E0 w σ.bx x v→VR E3 w' ((Tb.map (Bx.map (Gz b))).set b (.sl (m+1+p.length) r B3)) (Gz b x) v:=by
    intro E0 hl st0 x v hx;have keep:Np E0 w σ.bx E3 w' (((Tb.map (Bx.map (Gz b))).set b (.sl (m+1+p.length) r B3)).set b .dead):=by
     refine Ul b (kT E0 hl) st0 (by simp[ax]) (fun n d r rows hn _ hq=>by
      rw[AHi (fun e=>hn e.symm),AHi (fun e=>hn e.symm)]at hq;exact qg hq) (fun _ _=>rfl) (fun _ _=>rfl) rfl rfl hww (fun d0 r0 MA hq=> ?_)
     rw[AIp (by simp;omega)]at hq;cases hq
    exact qt keep hb (by rw[AIp (by simp;omega)]) hrl (by rw[hl.Ft]) hx
   have:=finish (Gz b) (ib b) h0 (fun x v hx=>rT (h0 E bd st) hx);rw[←e3];simp only[St.nB];rw[ag,df];exact this
 ·rw[←e3]
  split
  ·have:=yC id
   rw[Tc]at this;exact this
  ·simp only[St.nB]
   rw[ag,df];exact yC _
 ·rw[←e3]
  split<;>simp[St.nB]
end Go.Fw
end
section
namespace Go.Fw
theorem cS{w w':World}{B B':Nat→Prop}:∀{r:Ty} {cs:List Value} {x:r.D},r.flat=true→Rd w B r cs x→Rd w' B' r cs x
 | .cons c r,cs,x,h,hr=>by
  simp only[Ty.flat,AHN]at h;simp only[Rd]at hr⊢;obtain⟨v,l,rfl,h1,h2⟩:=hr;exact⟨v,l,rfl,cS h.1 h1,cS h.2 h2⟩
 | .unit,_,_,_,hr=>by simpa only[Rd]using hr
 | .int k,_,_,_,hr=>by simpa only[Rd]using hr
 | .bool,_,_,_,hr=>by simpa only[Rd]using hr
 | .str,_,_,_,hr=>by simpa only[Rd]using hr
 | .sl q,_,_,h,_=>by simp[Ty.flat]at h
theorem Vx{w:World}{S:Nat→Prop}{d:Nat}:∀{r:Ty} {cs:List Value} {y:r.D} {F:AAz},r.flat=true→Ow w S d r cs y F→F=[]
 | .int k,_,_,_,_,h=>by simp only[Ow]at h;exact h.2
 | .bool,_,_,_,_,h=>by simp only[Ow]at h;exact h.2
 | .str,_,_,_,_,h=>by simp only[Ow]at h;exact h.2
 | .unit,_,_,_,_,h=>by simp only[Ow]at h;exact h.2
 | .cons c r,_,_,_,hf,h=>by
  simp only[Ty.flat,AHN]at hf;simp only[Ow]at h;obtain⟨v,l,F1,F2,_,rfl,h1,h2⟩:=h;rw[Vx hf.1 h1,Vx hf.2 h2];rfl
 | .sl q,_,_,_,hf,_=>by simp[Ty.flat]at hf
theorem kd{w w':World}{S S':Nat→Prop}{d d':Nat}{r:Ty}(hr:r.flat=true){cs:List Value}{y:r.D}{F:AAz}(h:Ow w S d r cs y F):F=[]∧cs.length=r.n∧Ow w' S' d' r cs y []:=
 ⟨Vx hr h,RM h,Yu hr (cS (B':=fun _=>False) hr (SV h))⟩
theorem Yv:∀{r:Ty} {j:Nat} {x:r.D} {t:Ty} {y:t.D},r.flat=true→Ai r j x=some ⟨t,y⟩→t.flat=true
 | .cons c r,0,x,t,y,h,e=>by
  simp only[Ty.flat,AHN]at h;simp only[Ai,AG9,AIx]at e;obtain⟨rfl,_⟩:=e;exact h.1
 | .cons c r,j+1,x,t,y,h,e=>by
  simp only[Ty.flat,AHN]at h;simp only[Ai]at e;exact Yv h.2 e
 | .unit,_,_,_,_,_,e=>by simp[Ai]at e
 | .int k,0,x,t,y,_,e=>by simp only[Ai,AG9,AIx]at e;obtain⟨rfl,_⟩:=e;rfl
 | .bool,0,x,t,y,_,e=>by simp only[Ai,AG9,AIx]at e;obtain⟨rfl,_⟩:=e;rfl
 | .str,0,x,t,y,_,e=>by simp only[Ai,AG9,AIx]at e;obtain⟨rfl,_⟩:=e;rfl
 | .sl _,_,_,_,_,h,_=>by simp[Ty.flat]at h
 | .int _,_+1,_,_,_,_,e=>by simp[Ai]at e
 | .bool,_+1,_,_,_,_,e=>by simp[Ai]at e
 | .str,_+1,_,_,_,_,e=>by simp[Ai]at e
theorem pR{r:Ty}(hr:r.flat=true){rows:List r.D}:∀{p:List bE},CI r rows p→p=[]
 |[],_=>rfl
 |s::p,h=>by
  simp only[CI]at h;obtain⟨_,_,h⟩:=h;exfalso;cases hc:Ai r s.j (rowAt r rows s.i)with
  |none=>rw[hc]at h;exact h
  |some tx=>
   obtain⟨t,x⟩:=tx;have hf:=Yv hr hc;rw[hc]at h;cases t<;>simp_all[Ty.flat]
theorem flatten_nil{l:List AAz}(h:∀x∈l,x=[]):l.flatten=[]:=by
 induction l with
 |nil=>rfl
 |cons x l ih=>
  rw[AJn,h x (by simp),ih (fun y hy=>h y (by simp[hy]))];rfl
theorem qC{E:Env}{σ:St}{a:Act}{w:World}(h:Rel E σ a w){b d off n:Nat}{r:Ty}{rows:List r.D}(hb:σ.bx[b]? =some (.sl d r rows))(hr:r.flat=true)(hgd:r.iW=true)(hk:0<r.n)(hl:off+n≤rows.length)(hn:0<n):
  ∃bb o cap,E.Ft b= .slice (some ⟨bb,o,none⟩) rows.length cap∧rows.length≤cap∧w.there bb (o+off*r.n) (n*r.n)∧
   Rel E { σ with bx:=σ.bx.set b (.sl d r ((rows.take off++List.replicate n r.z)++rows.drop (off+n))) } a (w.setCells bb (o+off*r.n) (List.replicate n (ED r)).flatten)∧
   Mb [b] E σ.bx w E (σ.bx.set b (.sl d r ((rows.take off++List.replicate n r.z)++rows.drop (off+n)))) (w.setCells bb (o+off*r.n) (List.replicate n (ED r)).flatten):=by
 have st:=h.bx.st;obtain⟨F,⟨hd,ho⟩,hB⟩:=h.bx.take hb;simp only[AIs]at hB;have Dl:=(AG0.1 hb).1;obtain⟨d',rfl⟩:∃m,d=m+1:=⟨d-1,by omega⟩;simp only[Ow]at ho;obtain⟨ad,cap,hh,rD,ho⟩:=ho;simp only[AJD,AKa]at hh;rcases ho with⟨rfl,_⟩|⟨bb,o,arr,ty,fr,Fs,rfl,ha,LJ,hu,rfl,hFl,VI⟩
 ·omega
 have hFn:List.flatten Fs=[]:=flatten_nil fun x hx=>by
  obtain⟨i,hi,hxi⟩:=AKN hx;obtain⟨cs,_,_,h3⟩:=VI i (rows[i]'(by omega)) x (AG7 _) (by rw[AG7 hi,hxi]);exact(kd (w':=w) (S':=E.S) (d':=0) hr h3).1
 rw[hFn]at hB;have hzl:(ED r).length=r.n:=HG r;have hvl:((List.replicate n (ED r)).flatten).length=n*r.n:=by rw[DY,hzl]
 have qI:(off+n)*r.n≤cap*r.n:=AJd _ (by omega);have hm2:(off+n)*r.n=off*r.n+n*r.n:=AKk ..;have T6:o+off*r.n+((List.replicate n (ED r)).flatten).length≤arr.size:=by omega
 generalize RI:(List.replicate n (ED r)).flatten=vs at hvl T6
 refine⟨bb,o,cap,hh,rD,Yo ha (by omega) hu,?_⟩;have P5: ¬E.T bb:=hB.qT _ (by simp);have hB0:=hB;have UJ:∀c,c≠bb→(w.setCells bb (o+off*r.n) vs).heap[c]? =w.heap[c]?:=fun c hc=>IH _ _ _ _ _ hc
 have hw:∀c,c<w.heap.size→c∉[bb]→(w.setCells bb (o+off*r.n) vs).heap[c]? =w.heap[c]?:=fun c _ hc=>UJ c (by simpa using hc)
 have kT:Ep E w σ.bx σ.bx [] E (σ.bx.set b .dead) [bb]:=⟨Le.refl _,by simp,fun n B hn=>by
  by_cases en:n=b
  ·subst en
   rw[AIp Dl]at hn;exact .inl (by simpa using hn.symm)
  ·rw[AHi (fun h=>en h.symm)]at hn
   exact .inr hn,by simpa using hB⟩
 generalize mj:(rows.take off++List.replicate n r.z)++rows.drop (off+n)=B3
 have AA5:B3.length=rows.length:=by
  rw[←mj];simp;omega
 have keep:Np E w σ.bx E (w.setCells bb (o+off*r.n) vs) (σ.bx.set b (.sl (d'+1) r B3)):=Ul b kT st (by simp) (fun n d r rows hn _ hq=>by
   rw[AHi (by omega)]at hq⊢;exact hq) (fun _ _=>rfl) (fun _ _=>rfl) rfl rfl hw (fun d1 r1 AAq hq=>by
   rw[AIp Dl]at hq;simp only[AG9,Bx.sl.injEq]at hq;obtain⟨rfl,rfl,hq⟩:=hq;obtain rfl:=AJE hq;refine⟨d'+1,rows,hb,fun p hp q ys hg=> ?_⟩;obtain rfl:=pR hr hp;simp only[Ee,AG9,AIx]at hg;obtain⟨rfl,hg⟩:=hg;obtain rfl:=AJE hg;exact⟨by simp[CI],⟨B3,by simp[Ee],AA5⟩,fun h' hh' =>hh'⟩)
 refine⟨⟨h.Jo,h.tm.imp fun _ _ hq=>Kt keep hq,?_⟩,⟨⟨fun _ h=>h,fun _ h=>h,fun _ h=> .inl h,fun _ h=> .inl h,fun c hc=>UJ c (fun e=>P5 (e▸hc)),(CM _ _ _ _).os,(CM _ _ _ _).tape,(CM _ _ _ _).output,(CM _ _ _ _).size⟩,by simp,fun _ _=>⟨rfl,rfl⟩,fun n hn=>by
  rw[AHi (fun e=>by subst e;rw[hb]at hn;cases hn)];exact hn,fun n B B' fQ hB Md nK=>by
  simp at fQ;rw[AHi (fun e=>fQ e.symm),hB]at Md;cases Md;refine⟨Pg.refl nK,fun c hc=>UJ c (fun e=> ?_)⟩;obtain⟨Fs,⟨f1,f2⟩,f3⟩:=hB0;have Qq:(σ.bx.set b .dead)[n]? =some B:=by rw[AHi (fun e=>fQ e.symm)];exact hB
  have hF:Fs[n]? =some (Fs[n]'(by have:=(AG0.1 Qq).1;omega)):=AG7 _;rcases Wj (f2 n B _ Qq hF) hc with hs|hs
  ·exact P5 (e▸st c hs)
  ·exact(AIJ.1 f3.nodup).2.2 c (AJB.2 ⟨_,AIv hF,hs⟩) bb (by simp) e⟩⟩
 have hT:=hB.turn (E':=E) (w':=w.setCells bb (o+off*r.n) vs) (vw':=σ.bx.set b (.sl (d'+1) r B3)) (fun x v hq=>EB keep hq) (fun _ h=>h) (fun _ _=>rfl) (fun _ _=>rfl) (fun c hc _=>UJ c (fun e=>by
   rcases hc with hc|hc
   ·exact P5 (e▸st c hc)
   ·exact hc.2 (by simp[e]))) (fun F hF=>⟨hF.nodup,hF.free,fun c hc=>by rw[E9];exact hF.lt c hc,hF.st,fun c hc=>by rw[E9];exact hF.XS c hc⟩)
 have ALf:eW E (w.setCells bb (o+off*r.n) vs) (σ.bx.set b (.sl (d'+1) r B3)) b (.sl (d'+1) r B3) [bb]:=by
  refine⟨hd,?_⟩;simp only[Ow];refine⟨_,cap,by rw[hh,AA5],by omega,.inr ⟨bb,o,D5 arr (o+off*r.n) vs,ty,fr,List.replicate B3.length [],rfl,Hp _ _ _ _ _ _ _ ha,by rw[Ho];omega,by rw[Ho];exact hu,by simp,by simp,fun i y G hy hG=> ?_⟩⟩;have hG':G=[]:=AKQ (AIv hG);subst hG';have hil:i<rows.length:=by have:=(AG0.1 hy).1;omega
  by_cases Wn:off≤i∧i<off+n
  ·have hyz:y=r.z:=by
    rw[←mj,AHR (by simp;omega),AIw (by simp;omega)]at hy;exact AKQ (AIv hy)
   subst hyz;refine⟨ED r,hzl,fun j v hj=> ?_,Yq hgd⟩;have nS:j<r.n:=by have:=(AG0.1 hj).1;omega
   have e1:(i-off)*r.n=i*r.n-off*r.n:=Nat.sub_mul ..;have e2:off*r.n≤i*r.n:=AJd _ Wn.1;have e3:(i-off+1)*r.n≤n*r.n:=AJd _ (by omega);rw[AKk,AMH]at e3;have:=PE ha T6 ((i-off)*r.n+j) v (by
    rw[←RI,Je (by rw[hzl];omega),hzl,Nat.mul_comm (i-off),Nat.mul_add_mod,AMM nS];exact hj)
   rw[show o+off*r.n+((i-off)*r.n+j)=o+i*r.n+j by omega]at this;exact this
  ·have hyo:rows[i]? =some y:=by
    rw[←mj]at hy;by_cases h1:i<off
    ·rw[AHR (by simp;omega),AHR (by simp;omega),List.getElem?_take,AG5 h1]at hy
     exact hy
    ·rw[AIw (by simp;omega),ALv]at hy
     rw[←hy];congr 1;simp;omega
   obtain⟨cs,c1,c2,c3⟩:=VI i y (Fs[i]'(by omega)) hyo (AG7 _);obtain⟨_,c4,c5⟩:=kd (w':=w.setCells bb (o+off*r.n) vs) (S':=E.S) (d':=d') hr c3;refine⟨cs,c4,XJ c2 ha T6 (.inr ?_),c5⟩;by_cases h1:i<off
   ·have:(i+1)*r.n≤off*r.n:=AJd _ h1
    rw[AKk,AMH]at this;omega
   ·have:(off+n)*r.n≤i*r.n:=AJd _ (by omega)
    omega
 have:=CD.put (b:=b) (B:= .sl (d'+1) r B3) (F:=[bb]) (G:=[]) (by simpa using hT) (by rw[AIp Dl]) ALf;rw[AMF]at this;exact this
section
variable{Y:Type} {P:Program} {T:G8} (hT:Dd P T) {o:Oper} {E:Env} {σ:St} {a:Act} {w:World} {k:K Y} {y:Y}
include hT
theorem mh(h:Rel E σ a w){c:Call}{x:XV}(ho:o.op= .call c)(hc:c.callee= .builtin .clear)(GJ:c.args.toList.map σ.ev=[x])(e:Zm T c.argTypes σ x k=some y)
  (AJK:∀b p off n,x= .c (.win b p off n)→F7 (fun _=>none) σ o.op=[b]):∃v w' E' xv σ',((execOp a.eval o).run P w= .ok (.value v) w'∨((execOp a.eval o).run P w= .ok .skip w'∧v=undef))∧Rel E' σ' a w'∧XR E' w' σ'.bx xv v∧
   Mb (F7 (fun _=>none) σ o.op) E σ.bx w E' σ'.bx w'∧σ'.tm.length=σ.tm.length∧k xv σ' =some y:=by
 obtain⟨o1,hargs',rfl⟩:=RW GJ;have VB:=h.ev o1;unfold Zm at e;split at e
 case h_2=>cases e
 rename_i t b off n ht hx;rw[hx]at VB;rw[AJK b [] off n hx];split at e
 case h_2=>cases e
 rename_i d r rows hb;split at e
 case isFalse=>cases e
 rename_i UK;rw[AHN]at UK;obtain⟨UK,hr⟩:=UK;rw[AHN,AHl]at hr;obtain⟨hr,hk⟩:=hr;obtain⟨el,ti,hu,Mv,hs,hby,hrow⟩:=J2 hT UK;obtain⟨i,z,i1,i2,i3,i4,i5,hg⟩:=Wp hT Mv hrow;have UI:VR E w σ.bx (.win b [] off n) (a.eval o1):=VB;simp only[VR,hb]at UI;obtain⟨_,_,q,ys,ad,len,cap,hgp,hl,hh,hv⟩:=UI;simp only[Ee,AG9,AIx]at hgp;obtain⟨rfl,hgp⟩:=hgp;obtain rfl:=AJE hgp;simp only[Gt,AG9]at hh;by_cases hn:n=0
 ·subst hn
  have AIe:(rows.take off++List.replicate 0 r.z)++rows.drop (off+0)=rows:=by simp
  rw[AIe]at e;have Pd:σ.bx.set b (.sl d r rows)=σ.bx:=by
   apply ALy;intro j;rw[AKW];split
   ·rename_i e1
    subst e1;rw[hb];simp[(AG0.1 hb).1]
   ·rfl
  rw[Pd]at e;refine⟨.tuple #[],w,E,.c .undef,σ,.inl ?_,h,trivial,Mb.refl _ _ _ _,rfl,e⟩;have hz:∃a' c',a.eval o1= .slice a' 0 c':=⟨_,_,by rw[hv];rfl⟩;obtain⟨a',c',hz⟩:=hz;simp only[execOp,ho,resolve,hc,hargs',invoke,builtin,Sem.run_bind,Sem.run_pure,Result.andThen_ok,List.map_toArray,AL4,AMS,Builtin.clear_,ht,hz];cases a'<;>simp[Az hu]
 ·obtain⟨bb,oo,cap',g1,g2,g3,g4,g5⟩:=qC h (d:=d) hb hr hg hk hl (by omega)
  rw[g1]at hh;simp only[Value.slice.injEq]at hh;obtain⟨rfl,rfl,rfl⟩:=hh;have VM:a.eval o1= .slice (some ⟨bb,oo+off*r.n,none⟩) n (cap'-off):=by
   rw[hv];unfold NW;rw[AHA (by omega)];simp[Addr.add]
  refine⟨.tuple #[],_,E,.c .undef,_,.inl ?_,g4,trivial,g5,rfl,e⟩;have hz:(Builtin.zeroCells z.cells n).toList=(List.replicate n (ED r)).flatten:=by
   unfold Builtin.zeroCells;have hzn:z.cells.size=(ED r).length:=by rw[←i5];simp
   have:=Ut i5 n (fun hh=>by have:=HG r;rw[hh]at this;simp at this;omega);rw[←hzn]at this;exact this
  have h1:∀v∈(List.replicate n (ED r)).flatten,v.oneCell' =true:=fun v hv=>by
   obtain⟨l,hl1,rN⟩:=AJB.1 hv;rw[AKQ hl1]at rN;exact dH (w:=w) (S:=E.S) (d:=0) (Yq hg) v rN
  have hvl:((List.replicate n (ED r)).flatten).length=n*r.n:=by rw[DY,HG]
  have mA:=run_storeCells_cells (P:=P) bb (oo+off*r.n) (List.replicate n (ED r)).flatten 0 w (fun j hj=>by simpa using(g3 j (by omega)).1) (fun j hj=>by simpa using(g3 j (by omega)).2) h1;rw[ALW]at mA;obtain⟨n',rfl⟩:∃n',n=n'+1:=⟨n-1,by omega⟩;simp only[execOp,ho,resolve,hc,hargs',invoke,builtin,Sem.run_bind,Sem.run_pure,Result.andThen_ok,List.map_toArray,AL4,AMS,Builtin.clear_,ht,VM];simp[Az hu,zeroValue,typeInfo,i1,i4,hz,mA]
end
end Go.Fw
end
