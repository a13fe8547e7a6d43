/- The framework, part 1: a checked interpreter of the model's code over abstract states; no claim is made here. -/
import Derived.Calls
import Derived.Still
import Derived.Laws.World
import Derived.Laws.AppendOwn
import Derived.RowKit3
import Derived.Deep.MidRow
import Derived.Laws.StructEq
import Derived.Lib.ConvBytes
import Derived.Laws.BytesArg
import Derived.Tactics
import Derived.OrdersHeld
import Derived.ChangeArms
import Derived.ChangeOld
import Derived.DataReads
import Derived.Below
import Derived.Shelf.Spec.SlicesInsertGrow
import Derived.Shelf.Slices.Delete
set_option linter.unusedVariables false
set_option linter.unusedSimpArgs false
set_option linter.unusedSectionVars false
abbrev ABs:Type:=Int × Int × Bool × List UInt8 × Unit
abbrev AFa:Type:=List UInt8 × List Int × Bool × Unit
abbrev AEh:Type:=List Int × Bool × Int × Unit
abbrev AFG:Type:=Int × Int × List UInt8 × Unit
abbrev AFb:Type:=Int × List UInt8 × Bool × Unit
abbrev AAD:Type:=List Int
abbrev ADx:Type:=Unit × Int × Unit × Unit × Unit × Int × Unit × Unit × Unit × Unit × Bool × Unit
abbrev AA8:Type:=List Int × Int × Int × Unit
abbrev AAT:Type:=List Int × Int × Unit
abbrev AAa:Type:=Bool × Unit
abbrev AFd:Type:=Int × Bool × Int × Int × Bool × List UInt8 × Unit
abbrev AFR:Type:=Int × Int × Unit × Unit × Bool × Unit × Unit
abbrev AAt:Type:=Int × Int × Int × Int × List UInt8 × Unit
abbrev AFc:Type:=Unit × Unit × Int × Unit
abbrev AAl:Type:=Int × Unit
abbrev AAv:Type:=List Int × Unit
abbrev AAU:Type:=List Nat
abbrev AFL:Type:=Unit × Int × Unit
abbrev AAu:Type:=Unit × Unit
abbrev AFM:Type:=Int × Unit × Unit
abbrev AFU:Type:=Int × Int × Unit × Unit
abbrev ABD:Type:=Nat × Nat
abbrev AFK:Type:=Nat × List Nat
abbrev AAg:Type:=List UInt8
abbrev AAY:Type:=Int × Int × List Int × List ABs × Bool × List AAD × Unit
abbrev AAq:Type:=List ABs × List ABs × Int × Unit
abbrev ABc:Type:=Int × Int × List AFG × Unit
abbrev AAn:Type:=Int × List AFa × Unit
abbrev AAF:Type:=List ABs
abbrev AAG:Type:=List AEh
abbrev AAL:Type:=List AFb
abbrev AAj:Type:=List AEh × Int × Unit
abbrev AFe:Type:=ADx × Int × Unit
abbrev AAf:Type:=List AFa
abbrev ABd:Type:=AA8 × Unit
abbrev AFi:Type:=AFc × Bool × Unit
abbrev AFl:Type:=AFR × Bool × Unit
abbrev AER:Type:=AA8 × List Int × Unit
abbrev ADE:Type:=List AFG
abbrev ACh:Type:=AFL × Unit
abbrev ADs:Type:=AFU × Unit
abbrev ADy:Type:=AFc × Unit
abbrev AFr:Type:=AFM × Bool × Unit
abbrev AFp:Type:=AFL × Bool × Unit
abbrev AEl:Type:=AAt × Unit
abbrev ADd:Type:=AFR × Unit
abbrev AD1:Type:=ADx × Unit
abbrev AFV:Type:=ADx × Unit × ADx × Unit
abbrev ACN:Type:=List AFd
abbrev AEw:Type:=AFM × Unit
abbrev AFN:Type:=ABs × Unit
abbrev AFS:Type:=ABs × Bool × Unit
abbrev AAH:Type:=List AAq
abbrev AAP:Type:=List AAn
abbrev AAS:Type:=List ABc
abbrev AAQ:Type:=List AAY
abbrev AAd:Type:=List Int × Int × List AAq × List Int × List AEh × Int × List AAn × List AAY × List ABc × List AFb × Bool × Unit
abbrev ABS:Type:=AFe × Unit
abbrev ADq:Type:=List Int × AAF × List AAD × Unit
abbrev ADX:Type:=AAF × AAF × Unit
abbrev ADF:Type:=AFi × Unit
abbrev AEG:Type:=AFl × Unit
abbrev AFZ:Type:=AA8 × List Int × AAF × List AAD × Unit
abbrev AEi:Type:=ADE × Unit
abbrev AE8:Type:=AAf × Unit
abbrev AEm:Type:=AAG × Unit
abbrev AFW:Type:=AA8 × AAF × AAF × Unit
abbrev AFQ:Type:=AFp × Unit
abbrev AFP:Type:=AFr × Unit
abbrev AFO:Type:=AAF × Unit
abbrev AFY:Type:=AA8 × AAf × Unit
abbrev AFX:Type:=AA8 × AAG × Unit
abbrev ACH:Type:=List Int × AAH × List Int × AAG × AAP × AAQ × AAS × AAL × Unit
abbrev AFT:Type:=List Int × AAH × Unit × AAG × AAP × AAQ × AAS × AAL × List Int × Unit
abbrev AF9:=@List.getElem?_eq_some_iff
abbrev AGB:=@Bool.eq_false_or_eq_true
abbrev AGH:=@if_pos
abbrev AGI:=@List.getElem?_eq_getElem
abbrev AGL:=@Option.some.injEq
abbrev AGR:=@Option.bind_some
abbrev AGU:=@if_neg
abbrev AGV:=@Option.map_eq_some_iff
abbrev AGq:=@List.append_assoc
abbrev AGs:=@Option.bind_eq_some_iff
abbrev AGx:=@Bool.and_eq_true
abbrev AG0:=@List.getElem?_append_left
abbrev AG6:=@cond_false
abbrev AG7:=@decide_eq_true_eq
abbrev AHF:=@List.getElem?_set_ne
abbrev AHK:=@Bool.not_true
abbrev AHU:=@Bool.false_eq_true
abbrev AHV:=@List.drop_eq_nil_of_le
abbrev AHW:=@List.nodup_append
abbrev AHh:=@List.length_cons
abbrev AHp:=@List.mem_append
abbrev AHw:=@List.length_append
abbrev AH0:=@List.getElem?_set_self
abbrev AH7:=@List.append_nil
abbrev AH9:=@List.mem_of_getElem?
abbrev AH_:=@decide_eq_false
abbrev AIC:=@List.getElem?_append_right
abbrev AIM:=@Sigma.mk.injEq
abbrev AIN:=@List.getElem_mem
abbrev AIO:=@cond_true
abbrev AIP:=@Int.toNat_natCast
abbrev AIQ:=@Bool.true_and
abbrev AIR:=@decide_eq_true
abbrev AIS:=@List.Perm.append_right
abbrev AIT:=@List.length_nil
abbrev AIU:=@List.mem_cons
abbrev AIV:=@List.eq_nil_of_length_eq_zero
abbrev AIW:=@Bool.not_eq_false'
abbrev AIX:=@List.mem_singleton
abbrev AIY:=@Bool.not_eq_true
abbrev AIZ:=@List.Perm.append_left
abbrev AIa:=@List.perm_append_comm
abbrev AIb:=@List.mem_flatten
abbrev AIc:=@List.drop_zero
abbrev AId:=@List.cons.injEq
abbrev AIe:=@eq_of_heq
abbrev AIf:=@List.nil_append
abbrev AIg:=@List.getElem?_map
abbrev AIh:=@Prod.mk.injEq
abbrev AIi:=@Nat.le_refl
abbrev AIj:=@List.mem_or_eq_of_mem_set
abbrev AIk:=@if_false
abbrev AIl:=@Int.tdiv_eq_ediv_of_nonneg
abbrev AIm:=@Nat.lt_of_lt_of_le
abbrev AIn:=@List.singleton_append
abbrev AIq:=@Nat.mul_le_mul_right
abbrev AIx:=@Nat.le_trans
abbrev AI2:=@List.flatten_cons
abbrev AI3:=@Option.bind_assoc
abbrev AI7:=@List.all_eq_true
abbrev AI9:=@List.contains_eq_mem
abbrev AJB:=@List.pairwise_cons
abbrev AJC:=@List.length_filter_le
abbrev AJE:=@List.getElem_of_mem
abbrev AJM:=@beq_eq_false_iff_ne
abbrev AJN:=@List.eq_of_mem_replicate
abbrev AJb:=@List.getElem?_set
abbrev AJd:=@Bool.or_eq_true
abbrev AJo:=@and_true
abbrev AJr:=@Bool.not_false
abbrev AJv:=@Nat.zero_add
abbrev AJx:=@Bool.false_or
abbrev AJ3:=@Nat.add_mul
abbrev AJ4:=@List.flatten_append
abbrev AKA:=@if_true
abbrev AKB:=@List.length_set
abbrev AKF:=@List.cons_append
abbrev AKH:=@decide_eq_false_iff_not
abbrev AKK:=@Option.isSome_none
abbrev AKO:=@beq_iff_eq
abbrev AKP:=@Bool.not_eq_true'
abbrev AKQ:=@List.getElem?_eq_none
abbrev AKR:=@List.length_replicate
abbrev AKX:=@Option.getD_some
abbrev AKg:=@List.getD_eq_getElem?_getD
abbrev AKt:=@Int.tmod_eq_emod_of_nonneg
abbrev AKx:=@List.take_of_length_le
abbrev AKz:=@Bool.and_true
abbrev AK1:=@Nat.add_zero
abbrev AK3:=@List.mem_map
abbrev AK5:=@Option.isSome_some
abbrev AK8:=@List.mem_cons_of_mem
abbrev AK_:=@List.all_cons
abbrev ALD:=@List.length_eq_zero_iff
abbrev ALE:=@Bool.false_and
abbrev ALF:=@Bool.eq_false_iff
abbrev ALG:=@Array.getD_eq_getD_getElem?
abbrev ALH:=@List.nodup_cons
abbrev ALI:=@List.filter_cons
abbrev ALJ:=@List.getElem?_drop
abbrev ALK:=@List.set_cons_zero
abbrev ALL:=@List.take_succ_eq_append_getElem
abbrev ALM:=@List.ext_getElem?
abbrev ALN:=@Nat.le_of_lt
abbrev ALO:=@List.map_congr_left
abbrev ALP:=@Nat.add_assoc
abbrev ALQ:=@List.map_cons
abbrev ALR:=@List.replicate_succ
abbrev ALS:=@List.getElem?_replicate
abbrev ALT:=@Array.length_toList
abbrev ALV:=@List.drop_length
abbrev ALW:=@Option.some.inj
abbrev ALX:=@List.map_map
abbrev ALY:=@List.length_map
abbrev ALZ:=@List.mem_filter
abbrev ALa:=@List.set_append_right
abbrev ALb:=@List.pairwise_map
abbrev ALd:=@List.exists_cons_of_length_eq_add_one
abbrev ALe:=@List.pairwise_iff_getElem
abbrev ALf:=@List.flatten_nil
abbrev ALg:=@List.set_set
abbrev ALh:=@Nat.sub_self
abbrev ALi:=@Nat.one_mul
abbrev ALj:=@Decidable.not_not
abbrev ALk:=@List.contains_iff_mem
abbrev ALl:=@List.take_append_drop
abbrev ALm:=@Nat.succ_mul
abbrev ALo:=@Nat.mod_eq_of_lt
abbrev ALp:=@List.mem_of_mem_take
abbrev ALq:=@List.mem_of_mem_drop
abbrev ALs:=@dite_true
abbrev ALt:=@List.length_pos_iff
abbrev ALu:=@List.perm_iff_count
abbrev ALv:=@List.map_nil
abbrev ALw:=@List.Perm.refl
abbrev ALx:=@List.mapM_cons
abbrev ALy:=@List.take_zero
section
namespace Go.Fw
inductive Ty where
 |int (k:IntKind)|bool|str|sl (r:Ty)|unit|cons (c r:Ty)
 deriving DecidableEq
@[reducible] def Ty.D:Ty→Type
 | .int _=>Int
 | .bool=>Bool
 | .str=>List UInt8
 | .sl r=>List r.D
 | .unit=>Unit
 | .cons c r=>c.D×r.D
def Ty.n:Ty→Nat
 | .unit=>0
 | .cons _ r=>r.n+1
 |_=>1
def Ty.z:(t:Ty)→t.D
 | .int _=>(0:Int)
 | .bool=>false
 | .str=>[]
 | .sl _=>[]
 | .unit=>()
 | .cons c r=>(c.z,r.z)
def Ty.flat:Ty→Bool
 | .sl _=>false
 | .cons c r=>c.flat&&r.flat
 |_=>true
def Ty.scalar:Ty→Bool
 | .int _| .bool| .str=>true
 |_=>false
structure ae where
 i:Nat
 sz:Nat
 j:Nat
inductive AV where
 |v (t:Ty) (x:t.D)
 |sl (s:Bool) (r:Ty) (x:List r.D)
 |nil
 |ref (b:Nat) (p:List ae)
 |VP (b:Nat) (p:List ae) (off n:Nat)
 |FW (b j:Nat)
 |Gq (b:Nat) (p:List ae) (i sz j:Nat)
 |J4 (s:Bool) (r:Ty) (x:r.D) (j:Nat)
 |fn (f:Nat) (G6:AAU)
 |gD (f:Nat) (rows:List ((r:Ty)×r.D))
 |lr
 |undef
def AV.known:AV→Bool
 | .undef=>false
 |_=>true
inductive XV where
 |c (x:AV)
 |agg (l:List AV)
 |Jy (l:List (AV ⊕ List AV))
inductive Bx where
 |mem (cs:List AV)
 |sl (d:Nat) (r:Ty) (rows:List r.D)
 |dead
structure St where
 tm:List XV
 bx:List Bx
def Ah:(r:Ty)→(j:Nat)→r.D→Option ((t:Ty)×t.D)
 | .cons c _,0,x=>some ⟨c,x.1⟩
 | .cons _ r,j+1,x=>Ah r j x.2
 | .unit,_,_=>none
 | .int k,0,x=>some ⟨.int k,x⟩
 | .bool,0,x=>some ⟨.bool,x⟩
 | .str,0,x=>some ⟨.str,x⟩
 | .sl r,0,x=>some ⟨.sl r,x⟩
 |_,_+1,_=>none
def dc{a b:Ty}(h:a=b)(x:a.D):b.D:=h▸x
def Cd:(r:Ty)→(j:Nat)→r.D→(t:Ty)→t.D→Option r.D
 | .cons c _,0,x,t,y=>if h:t=c then some (dc h y,x.2)else none
 | .cons _ r,j+1,x,t,y=>(Cd r j x.2 t y).map fun z=>(x.1,z)
 | .unit,_,_,_,_=>none
 | .int k,0,_,t,y=>if h:t= .int k then some (dc h y)else none
 | .bool,0,_,t,y=>if h:t= .bool then some (dc h y)else none
 | .str,0,_,t,y=>if h:t= .str then some (dc h y)else none
 | .sl r,0,_,t,y=>if h:t= .sl r then some (dc h y)else none
 |_,_+1,_,_,_=>none
def rowAt(r:Ty)(rows:List r.D)(i:Nat):r.D:=rows.getD i r.z
def EY:(r:Ty)→List r.D→List ae→Option ((q:Ty)×List q.D)
 |r,rows,[]=>some ⟨r,rows⟩
 |r,rows,s::p=>
  match Ah r s.j (rowAt r rows s.i)with
  |some ⟨.sl q,x⟩=>EY q x p
  |_=>none
def cM:(r:Ty)→List r.D→List ae→(q:Ty)→List q.D→Option (List r.D)
 |r,_,[],q,y=>if h:q=r then some (dc (congrArg Ty.sl h) y)else none
 |r,rows,s::p,q,y=>
  match Ah r s.j (rowAt r rows s.i)with
  |some ⟨.sl r',x⟩=>(cM r' x p q y).bind fun x' =>(Cd r s.j (rowAt r rows s.i) (.sl r') x').map fun row=>rows.set s.i row
  |_=>none
inductive TD where
 |int (k:IntKind)|bool|str|sl (e:Nat)|st (fs:List ABD)|ptr (e:Nat)|other
structure TI where
 size:Nat
 bytes:Nat
 desc:TD
 row:Option Ty
abbrev HE:=List (Nat×TI)
def HE.get:HE→Nat→Option TI
 |[],_=>none
 |(u,i)::l,t=>if u=t then some i else HE.get l t
def TD.agg:TD→Bool
 | .st _=>true
 |_=>false
def HE.YN(T:HE)(t:Nat):Option Ty:=
 match T.get t with
 |some ti=>ti.row
 |none=>none
def lG:Ty→AV
 | .int k=> .v (.int k) (0:Int)
 | .bool=> .v .bool false
 | .str=> .v .str []
 | .sl _=> .nil
 |_=> .undef
def Ug:Ty→List AV
 | .cons c r=>lG c::Ug r
 | .unit=>[]
 |t=>[lG t]
def dk:Value→AV
 | .int k n=> .v (.int k) n
 | .bool b=> .v .bool b
 | .string s=> .v .str s.data.toList
 | .slice none 0 0=> .nil
 | .pointer none=> .lr
 |_=> .undef
def ofValue:Value→XV
 | .agg cs=> .agg (cs.toList.map dk)
 |v=> .c (dk v)
def St.ev(σ:St):Operand→XV
 | .tmp t=>σ.tm.getD t (.c .undef)
 | .const v=>ofValue v
 | .global _=> .c .undef
 | .func f=> .c (.fn f [])
def St.put(σ:St)(dst:Option Tmp)(x:XV):St:=
 match dst with
 |some d=>{ σ with tm:=σ.tm.set d x }
 |none=>σ
def XV.cells:XV→List AV
 | .c x=>[x]
 | .agg l=>l
 | .Jy _=>[]
def Lt{β:Ty→Type}(a b:Ty)(x:β a):Option (β b):=if h:a=b then some (h▸x)else none
def Ja(bx:List Bx):AV→Option ((r:Ty)×List r.D)
 | .sl _ r x=>some ⟨r,x⟩
 | .ref b p=>
  match bx[b]? with
  |some (.sl _ r rows)=>EY r rows p
  |_=>none
 | .VP b p off n=>
  match bx[b]? with
  |some (.sl _ r rows)=>(EY r rows p).map fun q=>⟨q.1,(q.2.drop off).take n⟩
  |_=>none
 |_=>none
def JH(bx:List Bx)(t:Ty)(x:AV):Option t.D:=
 match x with
 | .v u y=>Lt (β:=Ty.D) u t y
 | .nil=>match t with
  | .sl _=>some []
  |_=>none
 |x=>match t with
  | .sl r=>(Ja bx x).bind fun q=>Lt (β:=fun r=>List r.D) q.1 r q.2
  |_=>none
def FZ(bx:List Bx):(r:Ty)→List AV→Option r.D
 | .unit,[]=>some ()
 | .cons c r,x::l=>(JH bx c x).bind fun a=>(FZ bx r l).map fun b=>(a,b)
 |_,_=>none
def lenOf(bx:List Bx):AV→Option Nat
 | .nil=>some 0
 | .sl _ _ x=>some x.length
 | .ref b p=>
  match bx[b]? with
  |some (.sl _ r rows)=>(EY r rows p).map fun q=>q.2.length
  |_=>none
 | .VP b _ _ n=>
  match bx[b]? with
  |some (.sl _ _ _)=>some n
  |_=>none
 |_=>none
inductive AP where
 |v (t:Ty)
 |sl (s:Bool) (r:Ty)
 |nil
 |ref (i:Nat)
 |ptr (i j:Nat)
 |fi (r:Ty)
 |fn (f:Nat) (G6:AAU)
 |gD (f:Nat) (rs:List Ty)
 |any
 |Zf (i sz:Nat)
inductive XP where
 |c (p:AP)
 |agg (l:List AP)
 |row (r:Ty)
 |Jy (l:List (AP ⊕ List AP))
inductive BP where
 |mem (l:List AP)
 |sl (d:Nat) (r:Ty)
 |gone
structure Bn where
 Cn:List (Nat×XP)
 Eb:List BP
@[reducible] def TU:List Ty→Type
 |[]=>Unit
 |r::l=>r.D×TU l
def TU.mk:(l:List Ty)→TU l→List ((r:Ty)×r.D)
 |[],_=>[]
 |r::l,x=>⟨r,x.1⟩::TU.mk l x.2
@[reducible] def AP.V:AP→Type
 | .gD _ rs=>TU rs
 | .v t=>t.D
 | .sl _ r=>List r.D
 | .fi r=>r.D
 | .Zf _ _=>Nat×Nat
 |_=>Unit
@[reducible] def Rn.V:List AP→Type
 |[]=>Unit
 |p::l=>p.V×Rn.V l
@[reducible] def R_.V:List (AP ⊕ List AP)→Type
 |[]=>Unit
 | .inl p::l=>p.V×R_.V l
 | .inr q::l=>Rn.V q×R_.V l
@[reducible] def XP.V:XP→Type
 | .c p=>p.V
 | .agg l=>Rn.V l
 | .row r=>r.D
 | .Jy l=>R_.V l
@[reducible] def BP.V:BP→Type
 | .mem l=>Rn.V l
 | .sl _ r=>List r.D
 | .gone=>Unit
@[reducible] def Eg.V:List (Nat×XP)→Type
 |[]=>Unit
 |(_,p)::l=>p.V×Eg.V l
@[reducible] def GY.V:List BP→Type
 |[]=>Unit
 |p::l=>p.V×GY.V l
@[reducible] def Bn.V (s:Bn):Type:=Eg.V s.Cn×GY.V s.Eb
def AP.mk(m:Nat→Nat):(p:AP)→p.V→AV
 | .v t,x=> .v t x
 | .sl s r,x=> .sl s r x
 | .nil,_=> .nil
 | .ref i,_=> .ref (m i) []
 | .ptr i j,_=> .FW (m i) j
 | .fi r,x=> .J4 false r x 0
 | .fn f G6,_=> .fn f (G6.map m)
 | .gD f rs,x=> .gD f (TU.mk rs x)
 | .any,_=> .undef
 | .Zf i sz,k=> .ref (m i) [⟨k.1,sz,k.2⟩]
def Rn.mk(m:Nat→Nat):(l:List AP)→Rn.V l→List AV
 |[],_=>[]
 |p::l,x=>p.mk m x.1::Rn.mk m l x.2
def dq:(r:Ty)→r.D→List AV
 | .unit,_=>[]
 | .cons c r,x=>(match c,x.1 with
  | .sl q,y=>AV.sl false q y
  |c,y=> .v c y)::dq r x.2
 | .sl q,x=>[.sl false q x]
 | .int k,x=>[.v (.int k) x]
 | .bool,x=>[.v .bool x]
 | .str,x=>[.v .str x]
def R_.mk(m:Nat→Nat):(l:List (AP ⊕ List AP))→R_.V l→List (AV ⊕ List AV)
 |[],_=>[]
 | .inl p::l,x=> .inl (p.mk m x.1)::R_.mk m l x.2
 | .inr q::l,x=> .inr (Rn.mk m q x.1)::R_.mk m l x.2
def XP.mk(m:Nat→Nat):(p:XP)→p.V→XV
 | .c p,x=> .c (p.mk m x)
 | .agg l,x=> .agg (Rn.mk m l x)
 | .row r,x=> .agg (dq r x)
 | .Jy l,x=> .Jy (R_.mk m l x)
def BP.mk(m:Nat→Nat):(p:BP)→p.V→Bx
 | .mem l,x=> .mem (Rn.mk m l x)
 | .sl d r,x=> .sl d r x
 | .gone,_=> .dead
def Eg.mk(m:Nat→Nat):(l:List (Nat×XP))→Eg.V l→List XV→List XV
 |[],_,tm=>tm
 |(i,p)::l,x,tm=>Eg.mk m l x.2 (tm.set i (p.mk m x.1))
def GY.mk(m:Nat→Nat):(l:List BP)→GY.V l→List Bx
 |[],_=>[]
 |p::l,x=>p.mk m x.1::GY.mk m l x.2
def Bn.st(s:Bn)(n:Nat)(x:s.V):St:=
 { tm:=Eg.mk id s.Cn x.1 (List.replicate n (.c .undef)),bx:=GY.mk id s.Eb x.2 }
abbrev K5:=List (Option Nat)
def K5.put(m:K5)(i b:Nat):Option K5:=
 match m[i]? with
 |some none=>if m.contains (some b)then none else some (m.set i (some b))
 |some (some b')=>if b' =b then some m else none
 |none=>none
def UO:K5→List Nat→List Nat→Option K5
 |m,[],[]=>some m
 |m,i::is,b::bs=>(m.put i b).bind fun m=>UO m is bs
 |_,_,_=>none
def AP.Jw(N:Nat)(m:K5):AP→AV→Option K5
 | .ref i,.ref b []=>m.put i b
 | .ref i,.nil=>m.put i (N+i)
 | .ref _,_=>none
 | .Zf i sz,.ref b [s]=>if s.sz=sz then m.put i b else none
 | .Zf _ _,_=>none
 | .ptr i j,.FW b j' =>if j=j' then m.put i b else none
 | .ptr _ _,_=>none
 | .fn f G6,.fn g bs=>if f=g then UO m G6 bs else none
 | .fn _ _,_=>none
 | .nil,.nil=>some m
 | .nil,_=>none
 |_,_=>some m
def Rn.Jw(N:Nat):K5→List AP→List AV→Option K5
 |m,[],[]=>some m
 |m,p::l,x::xs=>(p.Jw N m x).bind fun m=>Rn.Jw N m l xs
 |_,_,_=>none
def R_.Jw(N:Nat):K5→List (AP ⊕ List AP)→List (AV ⊕ List AV)→Option K5
 |m,[],[]=>some m
 |m,.inl p::l,.inl x::xs=>(p.Jw N m x).bind fun m=>R_.Jw N m l xs
 |m,.inr p::l,.inr x::xs=>(Rn.Jw N m p x).bind fun m=>R_.Jw N m l xs
 |_,_,_=>none
def XP.Jw(N:Nat)(m:K5):XP→XV→Option K5
 | .c p,.c x=>p.Jw N m x
 | .agg l,.agg xs=>Rn.Jw N m l xs
 | .row _,.agg _=>some m
 | .Jy l,.Jy xs=>R_.Jw N m l xs
 |_,_=>none
def Eg.Jw(N:Nat)(tm:List XV):K5→List (Nat×XP)→Option K5
 |m,[]=>some m
 |m,(i,p)::l=>
  match tm[i]? with
  |some x=>(p.Jw N m x).bind fun m=>Eg.Jw N tm m l
  |none=>none
def GY.Jw(N:Nat)(bx:List Bx):Nat→K5→List BP→Option K5
 |_,m,[]=>some m
 |i,m,.mem l::ps=>
  match m[i]? with
  |some (some b)=>
   match bx[b]? with
   |some (.mem cs)=>(Rn.Jw N m l cs).bind fun m=>GY.Jw N bx (i+1) m ps
   |_=>none
  |_=>none
 |i,m,.sl _ _::ps=>
  match m[i]? with
  |some (some _)=>GY.Jw N bx (i+1) m ps
  |_=>none
 |i,m,.gone::ps=>GY.Jw N bx (i+1) m ps
def B7(bx:List Bx):K5→List Bx
 |[]=>bx
 |some b::m=>B7 (bx.set b .dead) m
 |none::m=>B7 bx m
def TU.dh:(l:List Ty)→List ((r:Ty)×r.D)→Option (TU l)
 |[],[]=>some ()
 |r::l,q::qs=>(Lt (β:=Ty.D) q.1 r q.2).bind fun a=>(TU.dh l qs).map fun b=>(a,b)
 |_,_=>none
def TU.eG(bx:List Bx):(l:List Ty)→List Nat→Option (TU l)
 |[],[]=>some ()
 |r::l,b::bs=>(match bx[b]? with
  |some (.mem cs)=>FZ bx r cs
  |_=>none).bind fun a=>(TU.eG bx l bs).map fun c=>(a,c)
 |_,_=>none
def AP.get(bx:List Bx):(p:AP)→AV→Option p.V
 | .gD f rs,x=>match x with
  | .gD g rows=>if f=g then TU.dh rs rows else none
  | .fn g bs=>if f=g then TU.eG bx rs bs else none
  |_=>none
 | .v t,x=>if t.scalar then JH bx t x else none
 | .sl false r,x=>JH bx (.sl r) x
 | .sl true r,x=>match x with
  | .sl true q y=>Lt (β:=fun r=>List r.D) q r y
  | .nil=>some []
  |_=>none
 | .fi r,x=>match x with
  | .J4 _ q y 0=>Lt (β:=Ty.D) q r y
  | .FW b 0=>match bx[b]? with
   |some (.mem cs)=>FZ bx r cs
   |_=>none
  | .Gq b p i sz 0=>match bx[b]? with
   |some (.sl _ q rows)=>(EY q rows p).bind fun s=>if sz=s.1.n then Lt (β:=Ty.D) s.1 r (rowAt s.1 s.2 i)else none
   |_=>none
  |_=>none
 | .nil,_=>some ()
 | .ref _,_=>some ()
 | .ptr _ _,_=>some ()
 | .fn _ _,_=>some ()
 | .any,_=>some ()
 | .Zf _ _,x=>match x with
  | .ref _ [s]=>some (s.i,s.j)
  |_=>none
def Rn.get(bx:List Bx):(l:List AP)→List AV→Option (Rn.V l)
 |[],[]=>some ()
 |p::l,x::xs=>(p.get bx x).bind fun a=>(Rn.get bx l xs).map fun b=>(a,b)
 |_,_=>none
def R_.get(bx:List Bx):(l:List (AP ⊕ List AP))→List (AV ⊕ List AV)→Option (R_.V l)
 |[],[]=>some ()
 | .inl p::l,.inl x::xs=>(p.get bx x).bind fun a=>(R_.get bx l xs).map fun b=>(a,b)
 | .inr p::l,.inr x::xs=>(Rn.get bx p x).bind fun a=>(R_.get bx l xs).map fun b=>(a,b)
 |_,_=>none
def XP.get(bx:List Bx):(p:XP)→XV→Option p.V
 | .c p,.c x=>p.get bx x
 | .agg l,.agg xs=>Rn.get bx l xs
 | .row r,.agg xs=>FZ bx r xs
 | .Jy l,.Jy xs=>R_.get bx l xs
 |_,_=>none
def Eg.get(bx:List Bx)(tm:List XV):(l:List (Nat×XP))→Option (Eg.V l)
 |[]=>some ()
 |(i,p)::l=>
  match tm[i]? with
  |some x=>(p.get bx x).bind fun a=>(Eg.get bx tm l).map fun b=>(a,b)
  |none=>none
def GY.get(bx bk:List Bx):(m:K5)→(l:List BP)→Option (GY.V l)
 |_,[]=>some ()
 |some b::m,.mem l::ps=>
  match bx[b]? with
  |some (.mem cs)=>(Rn.get bk l cs).bind fun a=>(GY.get bx bk m ps).map fun c=>(a,c)
  |_=>none
 |some b::m,.sl d r::ps=>
  match bx[b]? with
  |some (.sl d' q rows)=>if 1≤d∧d≤d' then(Lt (β:=fun r=>List r.D) q r rows).bind fun a=>(GY.get bx bk m ps).map fun c=>(a,c)else none
  |_=>none
 |_::m,.gone::ps=>(GY.get bx bk m ps).map fun c=>((),c)
 |_,_=>none
def Bn.fit(s:Bn)(N:Nat)(m0:K5)(tm:List XV)(bx:List Bx):Option (s.V×K5):=
 (Eg.Jw N tm m0 s.Cn).bind fun m=>(GY.Jw N bx 0 m s.Eb).bind fun m=>
  let bk:=B7 bx m
  (Eg.get bk tm s.Cn).bind fun a=>(GY.get bx bk m s.Eb).map fun c=>((a,c),m)
def BP.opened:BP→Bx
 | .sl d r=> .sl (d+1) r []
 |_=> .dead
def Bn.opens(s:Bn)(bx:List Bx):List Bx:=bx++s.Eb.map BP.opened
def Bn.m0(s:Bn):K5:=List.replicate s.Eb.length none
structure PQ where
 ins:Bn
 outs:Bn
 g:ins.V→Option outs.V
def SH(m:K5)(n:Nat)(i:Nat):Nat:=
 match m[i]? with
 |some (some b)=>b
 |_=>n+(i-m.length)
def T3(G5:Nat→Nat):Nat→(l:List BP)→GY.V l→List Bx→List Bx
 |_,[],_,bx=>bx
 |i,p::l,x,bx=>T3 G5 (i+1) l x.2 (if G5 i<bx.length then bx.set (G5 i) (p.mk G5 x.1)else bx++[p.mk G5 x.1])
def WV:(l:List (Nat×XP))→Eg.V l→(Nat→Nat)→XV
 |(_,p)::_,x,G5=>p.mk G5 x.1
 |[],_,_=> .c .undef
def DE:Nat:=2^36
section ops
variable{Y:Type}
abbrev K(Y:Type):=XV→St→Option Y
def St.new(σ:St)(b:Bx):St:={ σ with bx:=σ.bx++[b] }
def r8(x:Bool)(a b:XV)(σ:St)(k:K Y):Option Y:=cond x (k a σ) (k b σ)
def Wy(op:BinOp)(κ:IntKind)(a b:Int)(k:AV→Option Y):Option Y:=
 match op with
 | .add=>k (.v (.int κ) (κ.wrap (a+b)))
 | .sub=>k (.v (.int κ) (κ.wrap (a-b)))
 | .mul=>k (.v (.int κ) (κ.wrap (a*b)))
 | .quo=>if b=0 then none else k (.v (.int κ) (κ.wrap (a.tdiv b)))
 | .rem=>if b=0 then none else k (.v (.int κ) (a.tmod b))
 | .and=>k (.v (.int κ) (κ.wrap (BitVec.ofInt κ.bits a &&& BitVec.ofInt κ.bits b).toNat))
 | .or=>k (.v (.int κ) (κ.wrap (BitVec.ofInt κ.bits a ||| BitVec.ofInt κ.bits b).toNat))
 | .xor=>k (.v (.int κ) (κ.wrap (BitVec.ofInt κ.bits a ^^^ BitVec.ofInt κ.bits b).toNat))
 | .andNot=>k (.v (.int κ) (κ.wrap (BitVec.ofInt κ.bits a &&& ~~~BitVec.ofInt κ.bits b).toNat))
 | .eql=>k (.v .bool (a==b))
 | .neq=>k (.v .bool (a !=b))
 | .lss=>k (.v .bool (decide (a<b)))
 | .leq=>k (.v .bool (decide (a≤b)))
 | .gtr=>k (.v .bool (decide (a>b)))
 | .geq=>k (.v .bool (decide (a≥b)))
 |_=>none
def Sk(op:BinOp)(κ:IntKind)(a b:Int)(k:AV→Option Y):Option Y:=
 if b<0 then none else
 match op with
 | .shl=>k (.v (.int κ) (κ.wrap (a*2^min b.toNat κ.bits)))
 | .shr=>k (.v (.int κ) (a.fdiv (2^min b.toNat κ.bits)))
 |_=>none
def Ys(op:BinOp)(a b:AAg)(k:AV→Option Y):Option Y:=
 match op with
 | .add=>if a.length+b.length≤DE then k (.v .str (a++b))else none
 | .eql=>k (.v .bool (a==b))
 | .neq=>k (.v .bool (!(a==b)))
 | .lss=>k (.v .bool (Op.bytesLess a b))
 | .leq=>k (.v .bool (Op.bytesLess a b||a==b))
 | .gtr=>k (.v .bool (!(Op.bytesLess a b||a==b)))
 | .geq=>k (.v .bool (!Op.bytesLess a b))
 |_=>none
def dZ:TD→AV→AV→Option Bool
 | .int _,.v (.int j) a,.v (.int k) b=>if j=k then some (a==b)else none
 | .bool,.v .bool a,.v .bool b=>some (a==b)
 | .str,.v .str a,.v .str b=>some (a==b)
 |_,_,_=>none
def Hw(T:HE):Nat→List ABD→List AV→List AV→Option Bool
 |_,[],[],[]=>some true
 |i,(o,t)::fs,x::l,z::m=>
  if o=i then
   match T.get t with
   |some ti=>match dZ ti.desc x z with
    |some p=>(Hw T (i+1) fs l m).map fun r=>p&&r
    |none=>none
   |none=>none
  else none
 |_,_,_,_=>none
def HE.fields(T:HE)(t:Nat):Option (List ABD):=
 match(T.get t).map TI.desc with
 |some (.st fs)=>some fs
 |_=>none
def ja(T:HE)(t:Nat)(op:BinOp)(a b:XV)(k:AV→Option Y):Option Y:=
 match a,b with
 | .c (.v (.int j) x),.c (.v (.int j') y)=>
  match op with
  | .shl| .shr=>Sk op j x y k
  |_=>if j=j' then Wy op j x y k else none
 | .c (.v .str x),.c (.v .str y)=>Ys op x y k
 | .c (.v .bool x),.c (.v .bool y)=>
  match T.get t with
  |some ti=>match ti.desc with
   | .bool=>match op with
    | .eql=>k (.v .bool (x==y))
    | .neq=>k (.v .bool (!(x==y)))
    |_=>none
   |_=>none
  |none=>none
 | .agg l,.agg m=>
  match op,(T.fields t).bind fun fs=>Hw T 0 fs l m with
  | .eql,some r=>k (.v .bool r)
  | .neq,some r=>k (.v .bool (!r))
  |_,_=>none
 |_,_=>none
def unX(op:UnOp)(a:XV)(k:AV→Option Y):Option Y:=
 match op,a with
 | .not,.c (.v .bool x)=>k (.v .bool (!x))
 | .neg,.c (.v (.int j) x)=>k (.v (.int j) (j.wrap (0-x)))
 |_,_=>none
def mj(d b:Nat)(p:List ae)(s:ae):((t:Ty)×t.D)→AV
 |⟨.sl r,x⟩=>if d≤1 then .sl true r x else .ref b (p++[s])
 |⟨t,x⟩=>if t.scalar then .v t x else .undef
def lS(s:Bool):((t:Ty)×t.D)→AV
 |⟨.sl r,x⟩=> .sl s r x
 |⟨t,x⟩=>if t.scalar then .v t x else .undef
def V0(f:Nat→Option AV):Nat→Nat→Option (List AV)
 |_,0=>some []
 |j,n+1=>(f j).bind fun x=>(V0 f (j+1) n).map fun l=>x::l
def Gg(bx:List Bx):AV→Nat→Option AV
 | .FW b j,i=>
  match bx[b]? with
  |some (.mem cs)=>cs[j+i]?
  |_=>none
 | .Gq b p r sz j,i=>
  match bx[b]? with
  |some (.sl d q rows)=>if p.length<d then(EY q rows p).bind fun s=>if sz=s.1.n then(Ah s.1 (j+i) (rowAt s.1 s.2 r)).map (mj (d-p.length) b p ⟨r,sz,j+i⟩)else none else none
  |_=>none
 | .J4 s r x j,i=>(Ah r (j+i) x).map (lS s)
 |_,_=>none
def aF(T:HE)(t:Nat)(σ:St)(a:XV):Option XV:=
 match a,T.get t with
 | .c a,some ti=>if ti.size=0 then none else if ti.desc.agg then(V0 (Gg σ.bx a) 0 ti.size).map .agg else(Gg σ.bx a 0).map .c
 |_,_=>none
def Vx(d:Nat)(t:Ty)(x:AV)(bx:List Bx):Option (t.D×List Bx×Nat):=
 match x with
 | .v u y=>(Lt (β:=Ty.D) u t y).map fun y=>(y,bx,d)
 | .nil=>match t with
  | .sl _=>some ([],bx,d)
  |_=>none
 | .sl true r y=>match t with
  | .sl q=>(Lt (β:=fun r=>List r.D) r q y).map fun y=>(y,bx,1)
  |_=>none
 | .ref b []=>match t with
  | .sl q=>
   match bx[b]? with
   |some (.sl d' r y)=>(Lt (β:=fun r=>List r.D) r q y).map fun y=>(y,bx.set b .dead,min d (d'+1))
   |_=>none
  |_=>none
 | .VP b [] off n=>match t with
  | .sl q=>
   match bx[b]? with
   |some (.sl d' r y)=>(Lt (β:=fun r=>List r.D) r q ((y.drop off).take n)).map fun y=>(y,bx.set b .dead,min d (d'+1))
   |_=>none
  |_=>none
 |_=>none
def cellsIn(d:Nat):(r:Ty)→List AV→List Bx→Option (r.D×List Bx×Nat)
 | .unit,[],bx=>some ((),bx,d)
 | .cons c r,x::l,bx=>(Vx d c x bx).bind fun a=>(cellsIn a.2.2 r l a.2.1).map fun b=>((a.1,b.1),b.2)
 |_,_,_=>none
def qt(d:Nat)(r:Ty)(x:XV)(bx:List Bx):Option (r.D×List Bx×Nat):=
 match x with
 | .agg l=>cellsIn d r l bx
 | .c x=>Vx d r x bx
 |_=>none
def G2(b:Nat):AV→AV
 | .ref b' (s::p)=>if b' =b then .undef else .ref b' (s::p)
 | .VP b' (s::p) i n=>if b' =b then .undef else .VP b' (s::p) i n
 | .Gq b' (s::p) i sz j=>if b' =b then .undef else .Gq b' (s::p) i sz j
 |x=>x
def iZ(b:Nat):XV→XV
 | .c x=> .c (G2 b x)
 | .agg l=> .agg (l.map (G2 b))
 | .Jy l=> .Jy (l.map fun| .inl x=> .inl (G2 b x)| .inr q=> .inr (q.map (G2 b)))
def nA(b:Nat):Bx→Bx
 | .mem cs=> .mem (cs.map (G2 b))
 |x=>x
def St.mb(b:Nat)(σ:St):St:={ tm:=σ.tm.map (iZ b),bx:=σ.bx.map (nA b) }
def Rl(cs:List AV):Nat→List AV→Option (List AV)
 |_,[]=>some cs
 |j,x::l=>if j<cs.length then Rl (cs.set j x) (j+1) l else none
def dX(d:Nat)(r:Ty)(old:r.D)(j:Nat)(x:XV)(bx:List Bx):Option (r.D×List Bx×Nat):=
 match x with
 | .agg l=>if j=0 then cellsIn d r l bx else none
 | .c x=>
  match Ah r j old with
  |some ⟨t,_⟩=>(Vx d t x bx).bind fun a=>(Cd r j old t a.1).map fun row=>(row,a.2)
  |none=>none
 |_=>none
def XV.plain:XV→Bool
 | .c (.v _ _)=>true
 |_=>false
def XZ(σ:St)(a:XV)(x:XV):Option St:=
 match a with
 | .c (.FW b j)=>
  match σ.bx[b]? with
  |some (.mem cs)=>(Rl cs j x.cells).map fun cs=>{ σ with bx:=σ.bx.set b (.mem cs) }
  |_=>none
 | .c (.Gq b p i sz j)=>
  match σ.bx[b]? with
  |some (.sl d r rows)=>if p.length<d then
   (EY r rows p).bind fun s=>if sz=s.1.n then(dX (d-p.length) s.1 (rowAt s.1 s.2 i) j x (σ.bx.set b .dead)).bind fun w=>
    (cM r rows p s.1 (s.2.set i w.1)).map fun rows=>
     let σ':St:={ σ with bx:=w.2.1.set b (.sl (w.2.2+p.length) r rows) }
     if x.plain then σ' else σ'.mb b
    else none
   else none
  |_=>none
 |_=>none
def Ts(σ:St)(a x:XV):Option (St×XV):=
 match a,x with
 | .c (.Gq b _ _ _ _),.c (.VP b' (s::p') off n)=>
  if b' =b then
   match σ.bx[b]? with
   |some (.sl d r rows)=>(EY r rows (s::p')).map fun q=>({ σ with bx:=σ.bx.set b (.sl (min d (p'.length+1)) r rows) },.c (.sl true q.1 ((q.2.drop off).take n)))
   |_=>none
  else none
 |_,_=>some (σ,x)
def NB(σ:St)(a x:XV):Option St:=(Ts σ a x).bind fun q=>XZ q.1 a q.2
def bh(bx:List Bx)(x:AV):Option ((r:Ty)×(List r.D×List Bx×Nat)):=
 match x with
 | .v .str s=>some ⟨.int .u8,s.map (fun c=>(c.toNat:Int)),bx,9⟩
 | .sl s r rows=>if r.flat then some ⟨r,rows,bx,9⟩else if s then some ⟨r,rows,bx,1⟩else none
 | .ref b []=>
  match bx[b]? with
  |some (.sl d r rows)=>if r.flat then some ⟨r,rows,bx,9⟩else some ⟨r,rows,bx.set b .dead,d⟩
  |_=>none
 | .ref b p=>
  match bx[b]? with
  |some (.sl _ r rows)=>(EY r rows p).bind fun q=>if q.1.flat then some ⟨q.1,q.2,bx,9⟩else none
  |_=>none
 | .VP b p off n=>
  match bx[b]? with
  |some (.sl _ r rows)=>(EY r rows p).bind fun q=>if q.1.flat then some ⟨q.1,(q.2.drop off).take n,bx,9⟩else none
  |_=>none
 |_=>none
def cA(bx:List Bx)(x:AV):Option ((r:Ty)×(List r.D×List Bx×Nat)):=
 match x with
 | .ref b []=>
  match bx[b]? with
  |some (.sl d r rows)=>some ⟨r,rows,bx.set b .dead,d⟩
  |_=>none
 | .VP b [] off n=>
  match bx[b]? with
  |some (.sl d r rows)=>some ⟨r,(rows.drop off).take n,bx.set b .dead,d⟩
  |_=>none
 |_=>none
def HE.elem(T:HE)(t:Nat):Option TI:=
 match(T.get t).map TI.desc with
 |some (.sl e)=>T.get e
 |_=>none
def HE.Mk(T:HE)(t:Nat)(r:Ty):Bool:=
 match T.elem t with
 |some ti=>decide (ti.size=r.n)&&decide (ti.bytes≤512)&&decide (ti.row=some r)
 |none=>false
def HE.isStr(T:HE)(t:Nat):Bool:=
 match(T.get t).map TI.desc with
 |some .str=>true
 |_=>false
def HE.tC(T:HE)(t:Nat):Bool:=
 match(T.get t).map TI.desc with
 |some (.sl _)=>true
 |_=>false
def WG(T:HE)(ts:Array TypeId)(σ:St)(a x:XV)(k:K Y):Option Y:=
 match ts[0]?,ts[1]? with
 |some t,some u=>
  if T.tC u||T.isStr u then
   match a,x with
   | .c .nil,.c y=>
    (bh σ.bx y).bind fun s=>if T.Mk t s.1 then
     if s.2.1.length≤DE then k (.c (.ref s.2.2.1.length [])) { σ with bx:=s.2.2.1++[.sl s.2.2.2 s.1 s.2.1] }else none
     else none
   | .c a,.c y=>
    (cA σ.bx a).bind fun d=>if T.Mk t d.1 then(bh d.2.2.1 y).bind fun s=>
     (Lt (β:=fun r=>List r.D) s.1 d.1 s.2.1).bind fun rows=>
      if d.2.1.length+rows.length≤DE then
       k (.c (.ref s.2.2.1.length [])) { σ with bx:=s.2.2.1++[.sl (min d.2.2.2 s.2.2.2) d.1 (d.2.1++rows)] }
      else none
     else none
   |_,_=>none
  else none
 |_,_=>none
def Za(T:HE)(ts:Array TypeId)(σ:St)(x:XV)(k:K Y):Option Y:=
 match ts[0]?,x with
 |some t,.c (.VP b [] off n)=>
  match σ.bx[b]? with
  |some (.sl d r rows)=>if T.Mk t r&&(r.flat&&decide (0<r.n))then k (.c .undef) { σ with bx:=σ.bx.set b (.sl d r ((rows.take off++List.replicate n r.z)++rows.drop (off+n))) }else none
  |_=>none
 |_,_=>none
def V4:XV→Option Int
 | .c (.v (.int _) n)=>some n
 |_=>none
def KK(len:Nat)(lo hi:Option XV)(k:Nat→Nat→Option Y):Option Y:=
 let h:Option Int:=match hi with
  |none=>some (len:Int)
  |some x=>V4 x
 let l:Option Int:=match lo with
  |none=>some 0
  |some x=>V4 x
 match l,h with
 |some l,some h=>if 0≤l∧l≤h∧h≤(len:Int)then k l.toNat h.toNat else none
 |_,_=>none
def ZB(T:HE)(t:Nat)(σ:St)(x:XV)(lo hi:Option XV)(k:K Y):Option Y:=
 match x with
 | .c (.v .str s)=>if T.isStr t then KK s.length lo hi fun l h=>k (.c (.v .str ((s.drop l).take (h-l)))) σ else none
 | .c (.sl s r rows)=>if T.Mk t r then KK rows.length lo hi fun l h=>k (.c (.sl s r ((rows.drop l).take (h-l)))) σ else none
 | .c (.ref b p)=>
  match Ja σ.bx (.ref b p)with
  |some q=>if T.Mk t q.1 then KK q.2.length lo hi fun l h=>k (.c (.VP b p l (h-l))) σ else none
  |none=>none
 |_=>none
def ZI(σ:St)(T:HE)(t:Nat)(x i:XV)(k:K Y):Option Y:=
 match x,V4 i with
 | .c (.sl s r rows),some i=>if T.Mk t r then(if 0≤i∧i<(rows.length:Int)then k (.c (.J4 s r (rowAt r rows i.toNat) 0)) σ else none)else none
 | .c (.ref b p),some i=>
  match Ja σ.bx (.ref b p)with
  |some q=>if T.Mk t q.1 then(if 0≤i∧i<(q.2.length:Int)then k (.c (.Gq b p i.toNat q.1.n 0)) σ else none)else none
  |none=>none
 | .c (.VP b p off n),some i=>
  match Ja σ.bx (.ref b p)with
  |some q=>if T.Mk t q.1 then(if 0≤i∧i<(n:Int)then k (.c (.Gq b p (off+i.toNat) q.1.n 0)) σ else none)else none
  |none=>none
 |_,_=>none
def g7(T:HE)(t:Nat)(x:XV)(f:Nat):Option XV:=
 match T.get t with
 |some ⟨_,_,.st fs,_⟩=>
  match fs[f]? with
  |some (o,_)=>match x with
   | .c (.FW b j)=>some (.c (.FW b (j+o)))
   | .c (.Gq b p i sz j)=>some (.c (.Gq b p i sz (j+o)))
   | .c (.J4 s r y j)=>some (.c (.J4 s r y (j+o)))
   |_=>none
  |none=>none
 |_=>none
def qi(T:HE)(t:Nat)(x:XV)(f:Nat):Option XV:=
 match T.get t,x with
 |some ⟨_,_,.st fs,_⟩,.agg l=>
  match fs[f]? with
  |some (o,u)=>
   match T.get u with
   |some ti=>if ti.desc.agg then some (.agg ((l.drop o).take ti.size))else(l[o]?).map .c
   |none=>none
  |none=>none
 |_,_=>none
def gj(T:HE)(src dst:Nat)(σ:St)(x:XV)(k:K Y):Option Y:=
 match(T.get src).map TI.desc,(T.get dst).map TI.desc,x with
 |some (.int _),some (.int κ),.c (.v (.int _) n)=>k (.c (.v (.int κ) (κ.wrap n))) σ
 |some .str,some .str,.c (.v .str s)=>k (.c (.v .str s)) σ
 |some .str,some (.sl e),.c (.v .str s)=>
  match(T.get e).map TI.desc with
  |some (.int .u8)=>if s.length≤DE then k (.c (.ref σ.bx.length [])) (σ.new (.sl 9 (.int .u8) (s.map fun c=>(c.toNat:Int))))else none
  |_=>none
 |some (.sl e),some .str,.c x=>
  match(T.get e).map TI.desc,JH σ.bx (.sl (.int .u8)) x with
  |some (.int .u8),some l=>k (.c (.v .str (l.map fun n:Int=>UInt8.ofNat n.toNat))) σ
  |_,_=>none
 |_,_,_=>none
def gk(T:HE)(t:Nat)(σ:St)(l c:XV)(k:K Y):Option Y:=
 match(T.get t).map TI.desc,V4 l,V4 c with
 |some (.sl e),some n,some m=>
  match HE.YN T e with
  |some r=>if T.Mk t r then(if 0≤n∧n≤m∧m≤(DE:Int)then k (.c (.ref σ.bx.length [])) (σ.new (.sl 9 r (List.replicate n.toNat r.z)))else none)else none
  |none=>none
 |_,_,_=>none
def XF(T:HE)(fs:List ABD):List AV→List (Nat×XV)→Option (List AV)
 |cs,[]=>some cs
 |cs,(i,x)::l=>
  match fs[i]? with
  |some (o,u)=>
   match T.get u with
   |some ti=>if x.cells.length=ti.size∧ti.size≠0∧x.cells.all AV.known=true then(Rl cs o x.cells).bind fun cs=>XF T fs cs l else none
   |none=>none
  |none=>none
def Sp(r:Ty):Nat→Nat→List (Nat×XV)→List Bx→Nat→Option (List r.D×List Bx×Nat)
 |_,0,[],bx,d=>some ([],bx,d)
 |i,n+1,(j,x)::l,bx,d=>
  if i=j then(qt d r x bx).bind fun a=>(Sp r (i+1) n l a.2.1 a.2.2).map fun b=>(a.1::b.1,b.2)else none
 |i,n+1,[],bx,d=>(Sp r (i+1) n [] bx d).map fun b=>(r.z::b.1,b.2)
 |_,0,_::_,_,_=>none
def MR(T:HE)(t n:Nat)(parts:List (Nat×XV))(σ:St)(k:K Y):Option Y:=
 match(T.get t).map TI.desc with
 |some (.sl e)=>
  match HE.YN T e with
  |some r=>if T.Mk t r&&decide (n≤1024)&&decide (r.n≤1024)then(Sp r 0 n parts σ.bx 9).bind fun a=>k (.c (.ref a.2.1.length [])) { σ with bx:=a.2.1++[.sl a.2.2 r a.1] }else none
  |none=>none
 |_=>none
def Qk(T:HE)(t:Nat)(σ:St)(x i:XV)(k:K Y):Option Y:=
 match x,V4 i with
 | .c (.v .str s),some i=>if T.isStr t then if 0≤i∧i<(s.length:Int)then k (.c (.v (.int .u8) ((s.getD i.toNat 0).toNat:Int))) σ else none else none
 |_,_=>none
def cn(x:XV)(i:Nat):Option XV:=
 match x with
 | .Jy l=>match l[i]? with
  |some (.inl a)=>some (.c a)
  |some (.inr q)=>some (.agg q)
  |none=>none
 |_=>none
def DM(m:K5):AV→AV
 | .ref b (s::p)=>if m.contains (some b)then .undef else .ref b (s::p)
 | .VP b (s::p) i n=>if m.contains (some b)then .undef else .VP b (s::p) i n
 | .Gq b (s::p) i sz j=>if m.contains (some b)then .undef else .Gq b (s::p) i sz j
 |x=>x
def PK(m:K5):XV→XV
 | .c x=> .c (DM m x)
 | .agg l=> .agg (l.map (DM m))
 | .Jy l=> .Jy (l.map fun| .inl x=> .inl (DM m x)| .inr q=> .inr (q.map (DM m)))
def rO(m:K5):Bx→Bx
 | .mem cs=> .mem (cs.map (DM m))
 |x=>x
def St.Q1(m:K5)(σ:St):St:=
 match m with
 |[]=>σ
 |_::_=>{ tm:=σ.tm.map (PK m),bx:=σ.bx.map (rO m) }
def aH(c:PQ)(args:List XV)(σ:St)(k:K Y):Option Y:=
 if args.length=c.ins.Cn.length then
  match c.ins.fit σ.bx.length c.ins.m0 args (c.ins.opens σ.bx)with
  |some (v,m)=>(c.g v).bind fun u=>
   let G5:=SH m (c.ins.opens σ.bx).length
   let σ1:=({ σ with bx:=c.ins.opens σ.bx }:St).Q1 m
   k (WV c.outs.Cn u.1 G5) { σ1 with bx:=T3 G5 0 c.outs.Eb u.2 (B7 σ1.bx m) }
  |none=>none
 else none
def Un(σ:St)(x:XV)(k:K Y):Option Y:=
 match x with
 | .c (.VP b [] off n)=>
  (cA σ.bx (.VP b [] off n)).bind fun s=>k (.c (.ref s.2.2.1.length [])) { σ with bx:=s.2.2.1++[.sl s.2.2.2 s.1 s.2.1] }
 |x=>k x σ
def kF(l:List XV):Option AAU:=
 match l with
 |[]=>some []
 | .c (.FW b 0)::l=>(kF l).map fun r=>b::r
 |_=>none
def hE(big:Bool)(a b:XV)(k:AV→Option Y):Option Y:=
 match a,b with
 | .c (.v (.int j) x),.c (.v (.int j') y)=>
  if j=j' then(if big then k (.v (.int j) (if y>x then y else x))else k (.v (.int j) (if y<x then y else x)))else none
 |_,_=>none
def Qz(T:HE)(Γ:Nat→Option PQ)(o:Oper)(σ:St)(k:K Y):Option Y:=
 match o.op with
 | .move x=>k (σ.ev x) σ
 | .assign x=>Un σ (σ.ev x) k
 | .pick c a b=>match σ.ev c with
  | .c (.v .bool x)=>r8 x (σ.ev a) (σ.ev b) σ k
  |_=>none
 | .alloc t=>match HE.YN T t with
  |some r=>k (.c (.FW σ.bx.length 0)) (σ.new (.mem (Ug r)))
  |none=>none
 | .box t x=>match T.get t with
  |some ti=>if(σ.ev x).cells.length=ti.size∧ti.size≠0∧(σ.ev x).cells.all AV.known=true then k (.c (.FW σ.bx.length 0)) (σ.new (.mem (σ.ev x).cells))else none
  |none=>none
 | .build t parts=>match T.get t,HE.YN T t with
  |some ⟨_,_,.st fs,_⟩,some r=>match XF T fs (Ug r) (parts.toList.map fun q=>(q.1,σ.ev q.2))with
   |some cs=>k (.agg cs) σ
   |none=>none
  |_,_=>none
 | .buildSlice t n parts=>MR T t n (parts.toList.map fun q=>(q.1,σ.ev q.2)) σ k
 | .load t a=>match aF T t σ (σ.ev a)with
  |some x=>k x σ
  |none=>none
 | .store t a x=>match T.get t with
  |some ti=>if(σ.ev x).cells.length=ti.size∧ti.size≠0∧(σ.ev x).cells.all AV.known=true then(match NB σ (σ.ev a) (σ.ev x)with
   |some σ=>k (.c .undef) σ
   |none=>none)else none
  |none=>none
 | .nilCheck x=>match σ.ev x with
  | .c (.FW b j)=>k (.c (.FW b j)) σ
  | .c (.Gq b p i sz j)=>k (.c (.Gq b p i sz j)) σ
  | .c (.J4 s r y j)=>k (.c (.J4 s r y j)) σ
  | .c (.fn f G6)=>k (.c (.fn f G6)) σ
  |_=>none
 | .binOp op t x y _=>ja T t op (σ.ev x) (σ.ev y) fun a=>k (.c a) σ
 | .unOp op _ x=>unX op (σ.ev x) fun a=>k (.c a) σ
 | .convert s d x=>gj T s d σ (σ.ev x) k
 | .makeFunc (.func f) first G6=>if first.size=0 then(match kF (G6.toList.map σ.ev)with
  |some bs=>k (.c (.fn f bs)) σ
  |none=>none)else none
 | .makeSlice t l c=>gk T t σ (σ.ev l) (σ.ev c) k
 | .slice t x lo hi none=>ZB T t σ (σ.ev x) (lo.map σ.ev) (hi.map σ.ev) k
 | .fieldAddr t x f=>match g7 T t (σ.ev x) f with
  |some y=>k y σ
  |none=>none
 | .field t x f=>match qi T t (σ.ev x) f with
  |some y=>k y σ
  |none=>none
 | .indexAddr t x i=>ZI σ T t (σ.ev x) (σ.ev i) k
 | .index t x i=>Qk T t σ (σ.ev x) (σ.ev i) k
 | .extract x i=>match cn (σ.ev x) i with
  |some y=>k y σ
  |none=>none
 | .call { callee:= .value f,args,.. }=>match σ.ev f with
  | .c (.fn f G6)=>match Γ f with
   |some c=>aH c (args.toList.map σ.ev++G6.map fun b=> .c (.FW b 0)) σ k
   |none=>none
  | .c (.gD f rows)=>match Γ f with
   |some c=>aH c (args.toList.map σ.ev++rows.map fun q=> .c (.J4 false q.1 q.2 0)) σ k
   |none=>none
  |_=>none
 | .call { callee:= .builtin .len,args,argTypes }=>match args.toList.map σ.ev,argTypes[0]? with
  |[.c (.v .str s)],some t=>if T.isStr t then k (.c (.v (.int .i64) (s.length:Int))) σ else none
  |[.c x],some t=>if T.tC t then(match lenOf σ.bx x with
   |some n=>k (.c (.v (.int .i64) (n:Int))) σ
   |none=>none)else none
  |_,_=>none
 | .call { callee:= .builtin .append,args,argTypes }=>match args.toList.map σ.ev with
  |[a,x]=>WG T argTypes σ a x k
  |_=>none
 | .call { callee:= .builtin .clear,args,argTypes }=>match args.toList.map σ.ev with
  |[x]=>Za T argTypes σ x k
  |_=>none
 | .call { callee:= .builtin .max,args,.. }=>match args.toList.map σ.ev with
  |[a,x]=>hE true a x fun a=>k (.c a) σ
  |_=>none
 | .call { callee:= .builtin .min,args,.. }=>match args.toList.map σ.ev with
  |[a,x]=>hE false a x fun a=>k (.c a) σ
  |_=>none
 |_=>none
end ops
end Go.Fw
end
section
namespace Go.Fw
section
variable{Y:Type}
structure Xk where
 T:HE
 Γ:Nat→Option PQ
 hint:Nat→List Nat
def XH(hint:AAU):XV→Bool
 | .c (.FW b _)=>hint.contains b
 | .c (.Gq b _ _ _ _)=>hint.contains b
 | .c (.J4 _ _ _ _)=>true
 |_=>false
def Yp(hint:AAU)(σ:St):Op→Bool
 | .assign x=>match σ.ev x with
  | .c (.VP _ [] _ _)=>false
  |_=>true
 | .move _| .pick .. | .nilCheck _| .binOp .. | .unOp .. | .fieldAddr .. | .field .. | .indexAddr .. | .index .. | .extract .. | .build .. =>true
 | .slice _ _ _ _ none=>true
 | .load _ a=>XH hint (σ.ev a)
 | .call { callee:= .builtin .len,.. }=>true
 | .call { callee:= .builtin .max,.. }=>true
 | .call { callee:= .builtin .min,.. }=>true
 |_=>false
def GA(Γ:Nat→Option PQ)(σ:St):Op→List Nat
 | .store _ a _=>match σ.ev a with
  | .c (.FW b _)=>[b]
  | .c (.Gq b _ _ _ _)=>[b]
  |_=>[]
 | .call { callee:= .value f,args,.. }=>match σ.ev f with
  | .c (.fn f G6)=>match Γ f with
   |some c=>match c.ins.fit σ.bx.length c.ins.m0 (args.toList.map σ.ev++G6.map fun b=> .c (.FW b 0)) (c.ins.opens σ.bx)with
    |some (_,m)=>m.filterMap id
    |none=>[]
   |none=>[]
  | .c (.gD f rows)=>match Γ f with
   |some c=>match c.ins.fit σ.bx.length c.ins.m0 (args.toList.map σ.ev++rows.map fun q=> .c (.J4 false q.1 q.2 0)) (c.ins.opens σ.bx)with
    |some (_,m)=>m.filterMap id
    |none=>[]
   |none=>[]
  |_=>[]
 | .call { callee:= .builtin .clear,args,.. }=>match args.toList.map σ.ev with
  |[.c (.VP b _ _ _)]=>[b]
  |_=>[]
 |_=>[]
def tt:XV:= .c (.v .bool true)
def ff:XV:= .c (.v .bool false)
def m7(C:Xk)(ops:Array Oper)(o:Oper)(kn:St→Option Y)(σ:St):Option Y:=
 match o.guard with
 |none=>Qz C.T C.Γ o σ fun x σ' =>kn (σ'.put o.dst x)
 |some (j,want)=>
  match(ops[j]?).bind (·.dst)with
  |some t=>
   match σ.tm[t]? with
   |some (.c (.v .bool b))=>
    let yes (σ:St):Option Y:=Qz C.T C.Γ o σ fun x σ' =>kn (σ'.put o.dst x)
    let no (σ:St):Option Y:=kn (σ.put o.dst (.Jy []))
    cond b ((if want then yes else no) (σ.put (some t) tt)) ((if want then no else yes) (σ.put (some t) ff))
   |some (.Jy [])=>kn (σ.put o.dst (.Jy []))
   |_=>none
  |none=>none
def iy(C:Xk)(all:Array Oper):List Oper→(St→Option Y)→St→Option Y
 |[],kn,σ=>kn σ
 |o::rest,kn,σ=>m7 C all o (fun σ' =>iy C all rest kn σ') σ
def mi(C:Xk)(ops:Array Oper)(i:Nat)(kn:St→Option Y)(σ:St):Option Y:=
 match ops[i]? with
 |none=>none
 |some o=>m7 C ops o kn σ
def Z_(bx:List Bx)(b:Nat):Bool:=
 match bx[b]? with
 |some .dead=>true
 |some _=>false
 |none=>true
def idle(ops:Array Oper)(σ:St)(o:Oper):Bool:=
 match o.guard with
 |none=>false
 |some (j,want)=>
  match(ops[j]?).bind (·.dst)with
  |some t=>
   match σ.tm[t]? with
   |some (.c (.v .bool b))=>b !=want
   |some (.Jy [])=>true
   |_=>false
  |none=>false
def dr(hint:AAU)(ops:Array Oper)(Ch:Array Bool)(σ:St)(i:Nat):Bool:=
 match ops[i]? with
 |some o=>(Yp hint σ o.op||idle ops σ o)&&Region.free .any ops Ch i
 |none=>false
def iX(f:Nat→List Bool→Option Y):List Nat→List Bool→Option Y
 |[],_=>none
 |[i],ω=>f i ω
 |i::_::_,[]=>f i []
 |i::_::_,true::ω=>f i ω
 |_::j::r,false::ω=>iX f (j::r) ω
def Oh(C:Xk)(hint:AAU)(ops:Array Oper)(kn:List Bool→St→Option Y):Nat→Array Bool→List Bool→St→Option Y
 |fuel,Ch,ω,σ=>
  if hint.all (fun b=> !Z_ σ.bx b)then
   match Region.ready .any ops Ch with
   |[]=>kn ω σ
   |rs=>
    match fuel with
    |0=>none
    |fuel+1=>
     match rs.find? (dr hint ops Ch σ)with
     |some i=>mi C ops i (fun σ' =>Oh C hint ops kn fuel (Ch.setIfInBounds i true) ω σ') σ
     |none=>iX (fun i ω=>
      match ops[i]? with
      |some o=>if(GA C.Γ σ o.op).all (fun b=> !hint.contains b)then mi C ops i (fun σ' =>Oh C hint ops kn fuel (Ch.setIfInBounds i true) ω σ') σ else none
      |none=>none) rs ω
  else none
def first:Code→Nat
 | .region id _ _=>id
 | .seq a _=>first a
 | .cond _ a _=>first a
 | .block _ a=>first a
 | .loop a=>first a
 | .scope a=>first a
 |_=>0
abbrev KN(Y:Type):=List Bool→St→Option Y
def run(C:Xk)(J:Nat→St→Option Y):Code→KN Y→(Nat→KN Y)→KN Y→KN Y
 | .skip,kn,_,_,ω,σ=>kn ω σ
 | .region id ops draw,kn,_,_,ω,σ=>
  if draw then(if Region.noSelect ops then Oh C (C.hint id) ops kn ops.size (Array.replicate ops.size false) ω σ else none)else iy C ops ops.toList (kn ω) σ
 | .seq a b,kn,kx,kr,ω,σ=>run C J a (fun ω σ=>run C J b kn kx kr ω σ) kx kr ω σ
 | .cond (.tmp t) a b,kn,kx,kr,ω,σ=>
  match σ.tm[t]? with
  |some (.c (.v .bool x))=>cond x (run C J a kn kx kr ω (σ.put (some t) tt)) (run C J b kn kx kr ω (σ.put (some t) ff))
  |_=>none
 | .block id body,kn,kx,kr,ω,σ=>run C J body kn (fun j ω σ=>if j=id then kn ω σ else kx j ω σ) kr ω σ
 | .loop body,_,_,_,_,σ=>J (first body) σ
 | .exit id,_,kx,_,ω,σ=>kx id ω σ
 | .ret,_,_,kr,ω,σ=>kr ω σ
 |_,_,_,_,_,_=>none
def find(C:Xk)(J:Nat→St→Option Y)(ℓ :Nat):Code→KN Y→(Nat→KN Y)→KN Y→Option (KN Y)
 | .seq a b,kn,kx,kr=>
  match find C J ℓ a (fun ω σ=>run C J b kn kx kr ω σ) kx kr with
  |some f=>some f
  |none=>find C J ℓ b kn kx kr
 | .cond _ a b,kn,kx,kr=>
  match find C J ℓ a kn kx kr with
  |some f=>some f
  |none=>find C J ℓ b kn kx kr
 | .block id body,kn,kx,kr=>find C J ℓ body kn (fun j ω σ=>if j=id then kn ω σ else kx j ω σ) kr
 | .loop body,_,kx,kr=>
  if first body= ℓ then some (fun ω σ=>run C J body (fun _ σ=>J ℓ σ) kx kr ω σ)else find C J ℓ body (fun _ σ=>J (first body) σ) kx kr
 |_,_,_,_=>none
def rm(T:HE)(σ:St):ResultVar→Option XV
 | .tmp t=>σ.tm[t]?
 | .cell a t=>match σ.tm[a]? with
  |some x=>aF T t σ x
  |none=>none
def kC:List XV→Option (List (AV ⊕ List AV))
 |[]=>some []
 | .c x::l=>(kC l).map fun r=> .inl x::r
 | .agg q::l=>(kC l).map fun r=> .inr q::r
 |_=>none
def eJ(T:HE)(σ:St)(rs:List ResultVar):Option XV:=
 match rs.mapM (rm T σ)with
 |some [x]=>some x
 |some l=>(kC l).map .Jy
 |none=>none
def ON:Nat→Nat→List BP→K5
 |_,_,[]=>[]
 |i,n,p::l=>(match p with| .gone=>none|_=>if i<n then some i else none)::ON (i+1) n l
def fQ(T:HE)(c:PQ)(rs:List ResultVar)(σ:St):Option c.outs.V:=
 (eJ T σ rs).bind fun x=>(c.outs.fit σ.bx.length (ON 0 c.ins.Eb.length c.outs.Eb) [x] (c.outs.opens σ.bx)).map fun q=>q.1
def FQ(C:Xk)(c:PQ)(fn:Func)(J:Nat→St→Option c.outs.V)(ω:List Bool)(v:c.ins.V):Option c.outs.V:=
 match fn.body with
 |some code=>run C J code (fun _=>fQ C.T c fn.results.toList) (fun _ _ _=>none) (fun _=>fQ C.T c fn.results.toList) ω (c.ins.st fn.ntmps v)
 |none=>none
def GL(C:Xk)(c:PQ)(fn:Func)(J:Nat→St→Option c.outs.V)(ℓ :Nat)(ω:List Bool)(σ:St):Option c.outs.V:=
 match fn.body with
 |some code=>
  match find C J ℓ code (fun _=>fQ C.T c fn.results.toList) (fun _ _ _=>none) (fun _=>fQ C.T c fn.results.toList)with
  |some f=>f ω σ
  |none=>none
 |none=>none
def AV.eC(b:Nat)(r:Ty)(rows:List r.D):AV→AV
 | .ref k []=>if k=b then .sl true r rows else .ref k []
 |x=>x
def XV.eC(b:Nat)(r:Ty)(rows:List r.D):XV→XV
 | .c x=> .c (x.eC b r rows)
 |x=>x
def Bx.eC(b:Nat)(r:Ty)(rows:List r.D):Bx→Bx
 | .mem cs=> .mem (cs.map (AV.eC b r rows))
 |x=>x
def St.eC(b:Nat)(σ:St):St:=
 match σ.bx[b]? with
 |some (.sl _ r rows)=>{ tm:=σ.tm.map (XV.eC b r rows),bx:=(σ.bx.set b .dead).map (Bx.eC b r rows) }
 |_=>σ
def LQ:List AP→List AV→St→St
 | .sl true _::l,.ref b []::xs,σ=>LQ l xs (σ.eC b)
 |_::l,_::xs,σ=>LQ l xs σ
 |_,_,σ=>σ
def LI(bs:List BP):List (Nat×XP)→St→St
 |[],σ=>σ
 |(i,.c (.sl true r))::l,σ=>
  match σ.tm[i]? with
  |some (.c x)=>LI bs l (LQ [.sl true r] [x] σ)
  |_=>LI bs l σ
 |(i,.c (.ptr k _))::l,σ=>
  match bs[k]?,σ.tm[i]? with
  |some (.mem ps),some (.c (.FW b _))=>
   match σ.bx[b]? with
   |some (.mem cs)=>LI bs l (LQ ps cs σ)
   |_=>LI bs l σ
  |_,_=>LI bs l σ
 |_::l,σ=>LI bs l σ
def AV.gF:AV→Bool
 | .ref _ _| .VP _ _ _ _| .sl _ _ _| .nil=>true
 |_=>false
def St.forget(b j:Nat)(σ:St):St:=
 match σ.bx[b]? with
 |some (.mem cs)=>
  match cs[j]? with
  |some x=>if x.gF then{ σ with bx:=σ.bx.set b (.mem (cs.set j (.ref σ.bx.length [])))++[.dead] }else σ
  |none=>σ
 |_=>σ
def Rj(bs:List BP)(b:Nat):Nat→List AP→St→St
 |_,[],σ=>σ
 |j,p::l,σ=>Rj bs b (j+1) l (match p with
  | .ref q=>match bs[q]? with
   |some .gone=>σ.forget b j
   |_=>σ
  |_=>σ)
def Vw(bs:List BP):List (Nat×XP)→St→St
 |[],σ=>σ
 |(i,p)::l,σ=>Vw bs l (match p with
  | .c (.ptr k _)=>match bs[k]?,σ.tm[i]? with
   |some (.mem ps),some (.c (.FW b _))=>Rj bs b 0 ps σ
   |_,_=>σ
  |_=>σ)
def jump(nb:Nat)(s:Bn)(f:s.V→Option Y)(σ:St):Option Y:=
 if nb≤s.Eb.length then
  let σ:=Vw s.Eb s.Cn (LI s.Eb s.Cn σ)
  (s.fit σ.bx.length (ON 0 nb s.Eb) σ.tm (s.opens σ.bx)).bind fun q=>f q.1
 else none
end
end Go.Fw
end
section
namespace Go.Fw
def Bp(w:World)(b o:Nat)(cs:List Value):Prop:= ∀j v,cs[j]? =some v→w.cell? ⟨b,o+j,none⟩=some v
def Rd(w:World)(B:Nat→Prop):(t:Ty)→List Value→t.D→Prop
 | .int k,vs,x=>vs=[.int k x]
 | .bool,vs,x=>vs=[.bool x]
 | .str,vs,x=>vs=[.string ⟨x.toArray⟩]
 | .sl r,vs,x=> ∃a cap,vs=[.slice a (List.length x) cap]∧List.length x≤cap∧(List.length x=0∨ ∃b o,a=some ⟨b,o,none⟩∧B b∧
  ∀(i:Nat) (y:r.D),x[i]? =some y→ ∃cs,cs.length=r.n∧Bp w b (o+i*r.n) cs∧Rd w B r cs y)
 | .unit,vs,_=>vs=[]
 | .cons c r,vs,x=> ∃v l,vs=v::l∧Rd w B c [v] x.1∧Rd w B r l x.2
def mR(fr:ABD)(n:Nat):Prop:= ∀i,i<n→ ¬(fr.1≤i∧i<fr.2)
def mk:Ty→Nat
 | .int .u8=>0
 |_=>1
def Ow(w:World)(S:Nat→Prop):(d:Nat)→(t:Ty)→List Value→t.D→List Nat→Prop
 |0,.sl r,vs,x,F=>Rd w S (.sl r) vs x∧F=[]
 |d+1,.sl r,vs,x,F=> ∃a cap,vs=[.slice a (List.length x) cap]∧List.length x≤cap∧
  ((
   cap=0∧F=[])∨ ∃b o arr ty fr Fs,a=some ⟨b,o,none⟩∧w.heap[b]? =some (.cells arr ty fr)∧o+cap*r.n≤arr.size∧mR fr (arr.size+mk r)∧
   F=b::List.flatten Fs∧Fs.length=List.length x∧
   ∀(i:Nat) (y:r.D) (G:AAU),x[i]? =some y→Fs[i]? =some G→ ∃cs,cs.length=r.n∧Bp w b (o+i*r.n) cs∧Ow w S d r cs y G)
 |d,.cons c r,vs,x,F=> ∃v l F1 F2,vs=v::l∧F=F1++F2∧Ow w S d c [v] x.1 F1∧Ow w S d r l x.2 F2
 |_,.unit,vs,_,F=>vs=[]∧F=[]
 |_,.int k,vs,x,F=>vs=[.int k x]∧F=[]
 |_,.bool,vs,x,F=>vs=[.bool x]∧F=[]
 |_,.str,vs,x,F=>vs=[.string ⟨x.toArray⟩]∧F=[]
theorem Zo{w B}:∀{t:Ty} {vs x},Rd w B t vs x→vs.length=t.n
 | .int _,_,_,h=>by simp only[Rd]at h;subst h;rfl
 | .bool,_,_,h=>by simp only[Rd]at h;subst h;rfl
 | .str,_,_,h=>by simp only[Rd]at h;subst h;rfl
 | .sl _,_,_,h=>by simp only[Rd]at h;obtain⟨_,_,h,_⟩:=h;subst h;rfl
 | .unit,_,_,h=>by simp only[Rd]at h;subst h;rfl
 | .cons _ _,_,_,h=>by
  simp only[Rd]at h;obtain⟨_,_,rfl,_,h⟩:=h;simp[Ty.n,Zo h]
theorem Q8{w S}:∀{d} {t:Ty} {vs x F},Ow w S d t vs x F→vs.length=t.n
 |_,.int _,_,_,_,h=>by simp only[Ow]at h;rw[h.1];rfl
 |_,.bool,_,_,_,h=>by simp only[Ow]at h;rw[h.1];rfl
 |_,.str,_,_,_,h=>by simp only[Ow]at h;rw[h.1];rfl
 |0,.sl _,_,_,_,h=>by simp only[Ow]at h;exact Zo h.1
 |_+1,.sl _,_,_,_,h=>by simp only[Ow]at h;obtain⟨_,_,h,_⟩:=h;subst h;rfl
 |_,.unit,_,_,_,h=>by simp only[Ow]at h;rw[h.1];rfl
 |_,.cons _ _,_,_,_,h=>by
  simp only[Ow]at h;obtain⟨_,_,_,_,rfl,_,_,h⟩:=h;simp[Ty.n,Q8 h]
theorem Bp.of_block{w w':World}{b o:Nat}{cs:List Value}(h:Bp w b o cs)(hb:w'.heap[b]? =w.heap[b]?):Bp w' b o cs:=
 fun j v hj=>(World.cell?_of_block (a:=⟨b,o+j,none⟩) hb).trans (h j v hj)
theorem DT{w w':World}{B B':Nat→Prop}(hB:∀b,B b→B' b)(hw:∀b,B b→w'.heap[b]? =w.heap[b]?):∀{t:Ty} {vs x},Rd w B t vs x→Rd w' B' t vs x
 | .int _,_,_,h=>by simpa only[Rd]using h
 | .bool,_,_,h=>by simpa only[Rd]using h
 | .str,_,_,h=>by simpa only[Rd]using h
 | .unit,_,_,h=>by simpa only[Rd]using h
 | .sl r,_,_,h=>by
  simp only[Rd]at h⊢;obtain⟨a,cap,h1,h2,h3⟩:=h;refine⟨a,cap,h1,h2,h3.imp id ?_⟩
  rintro⟨b,o,ha,hb,h⟩
  refine⟨b,o,ha,hB b hb,fun i y hy=> ?_⟩;obtain⟨cs,hl,hc,hr⟩:=h i y hy;exact⟨cs,hl,hc.of_block (hw b hb),DT hB hw hr⟩
 | .cons _ _,_,_,h=>by
  simp only[Rd]at h⊢;obtain⟨v,l,h1,h2,h3⟩:=h;exact⟨v,l,h1,DT hB hw h2,DT hB hw h3⟩
theorem Cq{w w':World}{S S':Nat→Prop}(hS:∀b,S b→S' b)(hw:∀b,S b→w'.heap[b]? =w.heap[b]?):
  ∀{d} {t:Ty} {vs x F},(∀b∈F,w'.heap[b]? =w.heap[b]?)→Ow w S d t vs x F→Ow w' S' d t vs x F
 |_,.int _,_,_,_,_,h=>by simpa only[Ow]using h
 |_,.bool,_,_,_,_,h=>by simpa only[Ow]using h
 |_,.str,_,_,_,_,h=>by simpa only[Ow]using h
 |_,.unit,_,_,_,_,h=>by simpa only[Ow]using h
 |0,.sl r,_,_,_,_,h=>by
  simp only[Ow]at h⊢;exact⟨DT hS hw h.1,h.2⟩
 |d+1,.sl r,_,x,F,hF,h=>by
  simp only[Ow]at h⊢;obtain⟨a,cap,h1,h2,h3⟩:=h;refine⟨a,cap,h1,h2,h3.imp id ?_⟩
  rintro⟨b,o,arr,ty,fr,Fs,ha,hb,h4,h5,h6,h7,h⟩
  subst h6;have sW:=hF b (by simp);refine⟨b,o,arr,ty,fr,Fs,ha,sW.trans hb,h4,h5,rfl,h7,fun i y G hy hG=> ?_⟩;obtain⟨cs,hl,hc,hr⟩:=h i y G hy hG;refine⟨cs,hl,hc.of_block sW,Cq hS hw (fun c hc=>hF c ?_) hr⟩;exact AK8 _ (AIb.2 ⟨G,AH9 hG,hc⟩)
 |_,.cons _ _,_,_,_,hF,h=>by
  simp only[Ow]at h⊢;obtain⟨v,l,F1,F2,h1,h2,h3,h4⟩:=h;subst h2;exact⟨v,l,F1,F2,h1,rfl,Cq hS hw (fun c hc=>hF c (by simp[hc])) h3,Cq hS hw (fun c hc=>hF c (by simp[hc])) h4⟩
theorem SE{w:World}{S:Nat→Prop}:∀{d} {t:Ty} {vs x F},Ow w S d t vs x F→Rd w (fun b=>S b∨b∈F) t vs x
 |_,.int _,_,_,_,h=>by simp only[Ow]at h;simp only[Rd];exact h.1
 |_,.bool,_,_,_,h=>by simp only[Ow]at h;simp only[Rd];exact h.1
 |_,.str,_,_,_,h=>by simp only[Ow]at h;simp only[Rd];exact h.1
 |_,.unit,_,_,_,h=>by simp only[Ow]at h;simp only[Rd];exact h.1
 |0,.sl r,_,_,_,h=>by
  simp only[Ow]at h;exact DT (fun b hb=> .inl hb) (fun _ _=>rfl) h.1
 |d+1,.sl r,_,x,F,h=>by
  simp only[Ow]at h;simp only[Rd];obtain⟨a,cap,h1,h2,h3⟩:=h;refine⟨a,cap,h1,h2,?_⟩;rcases h3 with⟨hc,_⟩|⟨b,o,arr,ty,fr,Fs,ha,hb,h4,h5,h6,h7,h⟩
  ·exact .inl (by omega)
  ·refine .inr ⟨b,o,ha,.inr (by simp[h6]),fun i y hy=> ?_⟩
   have hi:i<Fs.length:=by
    have:=(AF9.1 hy).1;omega
   obtain⟨cs,hl,hc,hr⟩:=h i y Fs[i] hy (AGI hi);refine⟨cs,hl,hc,DT ?_ (fun _ _=>rfl) (SE hr)⟩;intro c W7;rcases W7 with W7|W7
   ·exact .inl W7
   ·exact .inr (by rw[h6];exact AK8 _ (AIb.2 ⟨_,AIN hi,W7⟩))
 |_,.cons _ _,_,_,_,h=>by
  simp only[Ow]at h;simp only[Rd];obtain⟨v,l,F1,F2,h1,h2,h3,h4⟩:=h;subst h2;refine⟨v,l,h1,DT ?_ (fun _ _=>rfl) (SE h3),DT ?_ (fun _ _=>rfl) (SE h4)⟩
  ·intro c hc;exact hc.imp id (by simp_all)
  ·intro c hc;exact hc.imp id (by simp_all)
theorem HJ{w:World}{S:Nat→Prop}:∀{d d'} {t:Ty} {vs x F},d≤d'→Ow w S d' t vs x F→
  ∃F1 F2,F.Perm (F1++F2)∧Ow w (fun b=>S b∨b∈F2) d t vs x F1
 |_,_,.int _,_,_,_,_,h=>by simp only[Ow]at h⊢;exact⟨[],[],by rw[h.2];simp,h.1,rfl⟩
 |_,_,.bool,_,_,_,_,h=>by simp only[Ow]at h⊢;exact⟨[],[],by rw[h.2];simp,h.1,rfl⟩
 |_,_,.str,_,_,_,_,h=>by simp only[Ow]at h⊢;exact⟨[],[],by rw[h.2];simp,h.1,rfl⟩
 |_,_,.unit,_,_,_,_,h=>by simp only[Ow]at h⊢;exact⟨[],[],by rw[h.2];simp,h.1,rfl⟩
 |0,d',.sl r,_,x,F,_,h=>by
  refine⟨[],F,by simp,?_⟩;simp only[Ow];exact⟨SE h,trivial⟩
 |d+1,0,.sl r,_,x,F,hd,h=>by omega
 |d+1,d'+1,.sl r,_,x,F,hd,h=>by
  simp only[Ow]at h⊢;obtain⟨a,cap,h1,h2,h3⟩:=h;rcases h3 with⟨hc,hF⟩|⟨b,o,arr,ty,fr,Fs,ha,hb,h4,h5,h6,h7,h⟩
  ·exact⟨[],[],by simp[hF],a,cap,h1,h2,.inl ⟨hc,rfl⟩⟩
  ·have key:∀(n:Nat) (Fs:List AAU) (y:List r.D),Fs.length=n→y.length=n→(∀(i:Nat) (z:r.D) (G:AAU),y[i]? =some z→Fs[i]? =some G→ ∃cs,cs.length=r.n∧Bp w b (o+i*r.n) cs∧Ow w S d' r cs z G)→
     ∃(Gs:List AAU) (F2:AAU),Fs.flatten.Perm (Gs.flatten++F2)∧Gs.length=n∧ ∀(i:Nat) (z:r.D) (G:AAU),y[i]? =some z→Gs[i]? =some G→ ∃cs,cs.length=r.n∧Bp w b (o+i*r.n) cs∧Ow w (fun b=>S b∨b∈F2) d r cs z G:=by
    intro n
    induction n with
    |zero=>
     intro Fs y hF hy _;obtain rfl:=AIV hF;exact⟨[],[],by simp,rfl,fun i z G _ hG=>by simp at hG⟩
    |succ n ih=>
     intro Fs y hF hy hh;obtain⟨Fs',G0,rfl⟩:∃l a,Fs=l++[a]:=⟨Fs.dropLast,Fs.getLast (by intro e;simp[e]at hF),(List.dropLast_concat_getLast _).symm⟩;obtain⟨y',z0,rfl⟩:∃l a,y=l++[a]:=⟨y.dropLast,y.getLast (by intro e;simp[e]at hy),(List.dropLast_concat_getLast _).symm⟩;simp only[AHw,AHh,AIT]at hF hy;obtain⟨Gs,F2,hp,hl,hg⟩:=ih Fs' y' (by omega) (by omega) (fun i z G hz hG=>hh i z G
      (by rw[AG0 (AF9.1 hz).1];exact hz) (by rw[AG0 (AF9.1 hG).1];exact hG))
     obtain⟨cs,Vp,hc,ho⟩:=hh n z0 G0 (by rw[AIC (by omega)];simp[show n-y'.length=0 by omega]) (by rw[AIC (by omega)];simp[show n-Fs'.length=0 by omega]);obtain⟨H1,H2,hhp,hho⟩:=HJ (d:=d) (d':=d') (by omega) ho;refine⟨Gs++[H1],F2++H2,?_,by simp[hl],?_⟩
     ·simp only[AJ4,AI2,ALf,AH7]
      refine(hp.append hhp).trans ?_
      rw[AGq,AGq];refine AIZ _ ?_
      rw[←AGq,←AGq];exact AIS _ AIa
     ·intro i z G hz hG
      by_cases hi:i<n
      ·rw[AG0 (by omega)]at hz hG
       obtain⟨cs,e1,e2,e3⟩:=hg i z G hz hG;exact⟨cs,e1,e2,Cq (by intro c hc;exact hc.imp id (by simp_all)) (fun _ _=>rfl) (fun _ _=>rfl) e3⟩
      ·have:i=n:=by
        have:=(AF9.1 hz).1;simp at this;omega
       subst this;rw[AIC (by omega)]at hz hG;simp[show i-y'.length=0 by omega,show i-Gs.length=0 by omega]at hz hG;subst hz hG;exact⟨cs,Vp,hc,Cq (by intro c hc;exact hc.imp id (by simp_all)) (fun _ _=>rfl) (fun _ _=>rfl) hho⟩
   obtain⟨Gs,F2,hp,hl,hg⟩:=key _ Fs x h7 rfl h;refine⟨b::Gs.flatten,F2,?_,a,cap,h1,h2,.inr ⟨b,o,arr,ty,fr,Gs,ha,hb,h4,h5,rfl,hl,hg⟩⟩;rw[h6];exact List.Perm.cons _ hp
 |d,d',.cons _ _,_,_,_,hd,h=>by
  simp only[Ow]at h⊢;obtain⟨v,l,F1,F2,h1,h2,h3,h4⟩:=h;obtain⟨A1,A2,pa,oa⟩:=HJ hd h3;obtain⟨B1,B2,pb,ob⟩:=HJ hd h4;refine⟨A1++B1,A2++B2,?_,v,l,A1,B1,h1,rfl,Cq (by intro c hc;exact hc.imp id (by simp_all)) (fun _ _=>rfl) (fun _ _=>rfl) oa,Cq (by intro c hc;exact hc.imp id (by simp_all)) (fun _ _=>rfl) (fun _ _=>rfl) ob⟩;rw[h2];refine(pa.append pb).trans ?_
  rw[AGq,AGq];refine AIZ _ ?_
  rw[←AGq,←AGq];exact AIS _ AIa
def RB(w:World):(t:Ty)→List Value→t.D→Nat→Prop
 | .sl r,vs,x,c=> ∃b o len cap,vs=[.slice (some ⟨b,o,none⟩) len cap]∧0<List.length x∧
  (c=b∨ ∃(i:Nat) (y:r.D) (cs:List Value),x[i]? =some y∧cs.length=r.n∧Bp w b (o+i*r.n) cs∧RB w r cs y c)
 | .cons c r,vs,x,d=> ∃v l,vs=v::l∧(RB w c [v] x.1 d∨RB w r l x.2 d)
 |_,_,_,_=>False
theorem Bp.unique{w:World}{b o:Nat}{cs ds:List Value}(h:Bp w b o cs)(k:Bp w b o ds)(hl:cs.length=ds.length):cs=ds:=by
 apply List.ext_getElem hl;intro i h1 h2;have e1:=h i _ (AGI h1);have e2:=k i _ (AGI h2);rw[e1]at e2;exact ALW e2
theorem ir{w:World}{B:Nat→Prop}{c:Nat}:∀{t:Ty} {vs x},Rd w B t vs x→RB w t vs x c→B c
 | .int _,_,_,_,h=>by simp[RB]at h
 | .bool,_,_,_,h=>by simp[RB]at h
 | .str,_,_,_,h=>by simp[RB]at h
 | .unit,_,_,_,h=>by simp[RB]at h
 | .sl r,_,x,h,k=>by
  simp only[Rd]at h;simp only[RB]at k;obtain⟨a,cap,rfl,_,h⟩:=h;obtain⟨b,o,len,cap',e,hl,k⟩:=k;simp only[AId,Value.slice.injEq,AJo]at e;obtain⟨rfl,rfl,rfl⟩:=e;rcases h with h|⟨b',o',e,hb,h⟩
  ·omega
  simp only[AGL,Addr.mk.injEq,AJo]at e;obtain⟨rfl,rfl⟩:=e;rcases k with rfl|⟨i,y,cs,hy,Vp,hca,k⟩
  ·exact hb
  ·obtain⟨ds,d1,d2,d3⟩:=h i y hy
   have:=hca.unique d2 (by omega);subst this;exact ir d3 k
 | .cons _ _,_,_,h,k=>by
  simp only[Rd]at h;simp only[RB]at k;obtain⟨v,l,rfl,h1,h2⟩:=h;obtain⟨v',l',e,k⟩:=k;cases e;exact k.elim (ir h1) (ir h2)
theorem bu{w w':World}{c:Nat}:∀{t:Ty} {vs x},(∀d,RB w t vs x d→w'.heap[d]? =w.heap[d]?)→RB w t vs x c→RB w' t vs x c
 | .int _,_,_,_,h=>by simp[RB]at h
 | .bool,_,_,_,h=>by simp[RB]at h
 | .str,_,_,_,h=>by simp[RB]at h
 | .unit,_,_,_,h=>by simp[RB]at h
 | .sl r,_,x,h,k=>by
  simp only[RB]at h k⊢;obtain⟨b,o,len,cap,e,hl,k⟩:=k;refine⟨b,o,len,cap,e,hl,?_⟩;rcases k with rfl|⟨i,y,cs,hy,Vp,hca,k⟩
  ·exact .inl rfl
  ·have hb:=h b ⟨b,o,len,cap,e,hl,.inl rfl⟩
   exact .inr ⟨i,y,cs,hy,Vp,hca.of_block hb,bu (fun d hd=>h d ⟨b,o,len,cap,e,hl,.inr ⟨i,y,cs,hy,Vp,hca,hd⟩⟩) k⟩
 | .cons _ _,_,_,h,k=>by
  simp only[RB]at h k⊢;obtain⟨v,l,e,k⟩:=k;refine⟨v,l,e,k.elim (fun k=> .inl (bu (fun d hd=>h d ⟨v,l,e,.inl hd⟩) k)) (fun k=> .inr (bu (fun d hd=>h d ⟨v,l,e,.inr hd⟩) k))⟩
end Go.Fw
end
section
namespace Go.Fw
def Bj{α β:Type}(R:α→β→Prop):List α→List β→Prop
 |[],[]=>True
 |a::l,b::m=>R a b∧Bj R l m
 |_,_=>False
theorem Bj.len{α β:Type}{R:α→β→Prop}:∀{l:List α} {m:List β},Bj R l m→l.length=m.length
 |[],[],_=>rfl
 |_::_,_::_,h=>by simp[Bj.len h.2]
theorem Bj.get{α β:Type}{R:α→β→Prop}:∀{l:List α} {m:List β} {i:Nat} {a:α},Bj R l m→l[i]? =some a→ ∃b,m[i]? =some b∧R a b
 |_::_,_::_,0,a,h,e=>by simp at e;subst e;exact⟨_,rfl,h.1⟩
 |_::_,_::_,i+1,a,h,e=>by
  obtain⟨b,hb,hr⟩:=Bj.get (i:=i) h.2 (by simpa using e);exact⟨b,by simpa using hb,hr⟩
 |[],[],_,_,_,e=>by simp at e
theorem Bj.imp{α β:Type}{R S:α→β→Prop}(h:∀a b,R a b→S a b):∀{l:List α} {m:List β},Bj R l m→Bj S l m
 |[],[],_=>trivial
 |_::_,_::_,k=>⟨h _ _ k.1,Bj.imp h k.2⟩
structure Env where
 Fc:Nat→Nat
 Fq:Nat→Value
 T:Nat→Prop
 S:Nat→Prop
def Gw(w:World):Value→List ae→Option Value
 |h,[]=>some h
 | .slice (some a) _ _,s::p=>
  match w.cell? ⟨a.block,a.off+s.i*s.sz+s.j,none⟩with
  |some h=>Gw w h p
  |none=>none
 |_,_::_=>none
def CJ:(r:Ty)→List r.D→List ae→Prop
 |_,_,[]=>True
 |r,rows,s::p=>s.i<rows.length∧s.sz=r.n∧
  match Ah r s.j (rowAt r rows s.i)with
  |some ⟨.sl q,x⟩=>CJ q x p
  |_=>False
def ND(sz off n:Nat)(a:Option Addr)(cap:Nat):Value:=
 .slice (if cap=off then a else a.map (·.add (off*sz))) n (cap-off)
def isSlice:Value→Bool
 | .slice .. =>true
 |_=>false
def Uy:Value→Bool
 | .pointer (some ⟨_,_,none⟩)=>true
 |_=>false
def RA(E:Env)(w:World)(q:(r:Ty)×r.D)(p:Value):Prop:= ∃bb o cs,p= .pointer (some ⟨bb,o,none⟩)∧E.T bb∧cs.length=q.1.n∧Bp w bb o cs∧Rd w E.T q.1 cs q.2
def VR(E:Env)(w:World)(vw:List Bx):AV→Value→Prop
 | .v t x,v=>t.scalar=true∧Rd w (fun _=>False) t [v] x
 | .sl s r x,v=>Rd w (if s then E.S else E.T) (.sl r) [v] x
 | .nil,v=>v= .slice none 0 0
 | .ref b p,v=>isSlice v=true∧match vw[b]? with
  |some (.sl _ r rows)=>CJ r rows p∧(∃q,EY r rows p=some q)∧Gw w (E.Fq b) p=some v
  |some _=>True
  |none=>False
 | .VP b p off n,v=>isSlice v=true∧match vw[b]? with
  |some (.sl _ r rows)=>CJ r rows p∧ ∃q ys a len cap,EY r rows p=some ⟨q,ys⟩∧off+n≤List.length ys∧Gw w (E.Fq b) p=some (.slice a len cap)∧v=ND q.n off n a cap
  |some _=>True
  |none=>False
 | .FW b j,v=>b<vw.length∧v= .pointer (some ⟨E.Fc b,j,none⟩)
 | .Gq b p i sz j,v=>Uy v=true∧match vw[b]? with
  |some (.sl _ r rows)=>CJ r rows p∧ ∃q ys bb o len cap,EY r rows p=some ⟨q,ys⟩∧i<List.length ys∧Gw w (E.Fq b) p=some (.slice (some ⟨bb,o,none⟩) len cap)∧v= .pointer (some ⟨bb,o+i*sz+j,none⟩)
  |some _=>True
  |none=>False
 | .J4 s r x j,v=> ∃bb o cs,v= .pointer (some ⟨bb,o+j,none⟩)∧(if s then E.S else E.T) bb∧cs.length=r.n∧Bp w bb o cs∧Rd w (if s then E.S else E.T) r cs x
 | .fn f G6,v=>(∀b∈G6,b<vw.length)∧v= .func (.func f) #[] (G6.map fun b=>Value.pointer (some ⟨E.Fc b,0,none⟩)).toArray
 | .gD f rows,v=> ∃ps:List Value,v= .func (.func f) #[] ps.toArray∧Bj (RA E w) rows ps
 | .lr,v=>v= .pointer none
 | .undef,_=>True
def YB(E:Env)(w:World)(vw:List Bx)(l:List AV)(vs:List Value):Prop:=Bj (VR E w vw) l vs
def TR(E:Env)(w:World)(vw:List Bx):AV ⊕ List AV→Value→Prop
 | .inl x,v=>VR E w vw x v
 | .inr q,v=> ∃vs,v= .agg vs∧YB E w vw q vs.toList
def XR(E:Env)(w:World)(vw:List Bx):XV→Value→Prop
 | .c x,v=>VR E w vw x v
 | .agg l,v=> ∃vs,v= .agg vs∧YB E w vw l vs.toList
 | .Jy l,v=> ∃vs,v= .tuple vs∧Bj (TR E w vw) l vs.toList
def dV(E:Env)(w:World)(vw:List Bx)(k:Nat):Bx→List Nat→Prop
 | .mem cs,F=>F=[E.Fc k]∧ ∃arr ty fr,w.heap[E.Fc k]? =some (.cells arr ty fr)∧mR fr (arr.size+1)∧YB E w vw cs arr.toList
 | .sl d r rows,F=>1≤d∧Ow w E.S d (.sl r) [E.Fq k] rows F
 | .dead,F=>F=[]
structure Sep (E:Env) (w:World) (F:AAU):Prop where
 nodup:F.Nodup
 free:∀c∈F,¬E.T c
 lt:∀c∈F,c<w.heap.size
 st:∀c,E.S c→E.T c
 W0:∀c,E.T c→c<w.heap.size
def JX(E:Env)(w:World)(vw bx:List Bx)(Fs:List AAU):Prop:=
 Fs.length=bx.length∧ ∀k B F,bx[k]? =some B→Fs[k]? =some F→dV E w vw k B F
def CD(E:Env)(w:World)(vw bx:List Bx)(G:AAU):Prop:=
 ∃Fs,JX E w vw bx Fs∧Sep E w (Fs.flatten++G)
structure Le (E E':Env):Prop where
 Fc:E'.Fc=E.Fc
 Fq:E'.Fq=E.Fq
 T:∀c,E.T c→E'.T c
 S:∀c,E.S c→E'.S c
 sb:∀c,E'.T c→E.T c∨E'.S c
 nJ:∀c,E'.S c→E.S c∨ ¬E.T c
theorem Le.refl(E:Env):Le E E:=⟨rfl,rfl,fun _ h=>h,fun _ h=>h,fun _ h=> .inl h,fun _ h=> .inl h⟩
theorem Le.trans{E E' qE:Env}(h:Le E E')(k:Le E' qE):Le E qE:=
 ⟨k.Fc.trans h.Fc,k.Fq.trans h.Fq,fun c hc=>k.T c (h.T c hc),fun c hc=>k.S c (h.S c hc),
  fun c hc=>(k.sb c hc).elim (fun h' =>(h.sb c h').imp id (k.S c)) .inr,
  fun c hc=>(k.nJ c hc).elim (h.nJ c) (fun h' => .inr fun ht=>h' (h.T c ht))⟩
theorem WR{w B}:∀{r:Ty} {cs x j t y},Rd w B r cs x→Ah r j x=some ⟨t,y⟩→ ∃v,cs[j]? =some v∧Rd w B t [v] y
 | .cons c r,cs,x,0,t,y,h,e=>by
  simp only[Rd]at h;obtain⟨v,l,rfl,h1,h2⟩:=h;simp only[Ah,AGL,AIM]at e;obtain⟨rfl,e⟩:=e;obtain rfl:=AIe e;exact⟨v,rfl,h1⟩
 | .cons c r,cs,x,j+1,t,y,h,e=>by
  simp only[Rd]at h;obtain⟨v,l,rfl,h1,h2⟩:=h;simp only[Ah]at e;obtain⟨u,hu,hr⟩:=WR h2 e;exact⟨u,by simpa using hu,hr⟩
 | .int k,cs,x,0,t,y,h,e=>by
  simp only[Ah,AGL,AIM]at e;obtain⟨rfl,e⟩:=e;obtain rfl:=AIe e;simp only[Rd]at h;subst h;exact⟨_,rfl,by simp only[Rd]⟩
 | .bool,cs,x,0,t,y,h,e=>by
  simp only[Ah,AGL,AIM]at e;obtain⟨rfl,e⟩:=e;obtain rfl:=AIe e;simp only[Rd]at h;subst h;exact⟨_,rfl,by simp only[Rd]⟩
 | .str,cs,x,0,t,y,h,e=>by
  simp only[Ah,AGL,AIM]at e;obtain⟨rfl,e⟩:=e;obtain rfl:=AIe e;simp only[Rd]at h;subst h;exact⟨_,rfl,by simp only[Rd]⟩
 | .sl r,cs,x,0,t,y,h,e=>by
  simp only[Ah,AGL,AIM]at e;obtain⟨rfl,e⟩:=e;obtain rfl:=AIe e;have h':=h;simp only[Rd]at h;obtain⟨a,cap,rfl,_⟩:=h;exact⟨_,rfl,h'⟩
 | .unit,_,_,_,_,_,_,e=>by simp[Ah]at e
 | .int _,_,_,_+1,_,_,_,e=>by simp[Ah]at e
 | .bool,_,_,_+1,_,_,_,e=>by simp[Ah]at e
 | .str,_,_,_+1,_,_,_,e=>by simp[Ah]at e
 | .sl _,_,_,_+1,_,_,_,e=>by simp[Ah]at e
theorem L5{r:Ty}{rows:List r.D}{i:Nat}(h:i<rows.length):rows[i]? =some (rowAt r rows i):=by
 simp[rowAt,h]
theorem bl{w:World}{B:Nat→Prop}:∀{p:List ae} {r:Ty} {h:Value} {rows:List r.D} {q:Ty} {ys:List q.D},
  Rd w B (.sl r) [h] rows→CJ r rows p→EY r rows p=some ⟨q,ys⟩→
  ∃h',(∀w':World,(∀b,B b→w'.heap[b]? =w.heap[b]?)→Gw w' h p=some h')∧Rd w B (.sl q) [h'] ys
 |[],r,h,rows,q,ys,hr,_,hg=>by
  simp only[EY,AGL,AIM]at hg;obtain⟨rfl,e⟩:=hg;obtain rfl:=AIe e;exact⟨h,fun w' _=>by cases h<;>rfl,hr⟩
 |s::p,r,h,rows,q,ys,hr,hp,hg=>by
  simp only[CJ]at hp;obtain⟨hi,LW,hp⟩:=hp;simp only[EY]at hg;simp only[Rd]at hr;obtain⟨a,cap,hh,_,hr⟩:=hr;obtain rfl:=(List.cons.inj hh).1;rcases hr with hr|⟨b,o,rfl,hb,hr⟩
  ·omega
  obtain⟨cs,hl,hc,hrow⟩:=hr s.i _ (L5 hi);split at hg
  ·rename_i q' x' WC
   rw[WC]at hp;obtain⟨v,hv,hrv⟩:=WR hrow WC;obtain⟨h',hh',Ro⟩:=bl hrv hp hg;refine⟨h',fun w' hw' => ?_,Ro⟩;simp only[Gw];have SO:w'.cell? ⟨b,o+s.i*s.sz+s.j,none⟩=some v:=by
    rw[LW];exact(World.cell?_of_block (a:=⟨b,_,none⟩) (hw' b hb)).trans (hc _ _ hv)
   rw[SO];exact hh' w' hw'
  ·cases hg
theorem B5{w:World}{h:Value}:Gw w h []=some h:=by cases h<;>rfl
structure Nk (E:Env) (w:World) (vw:List Bx) (E':Env) (w':World) (vw':List Bx):Prop where
 len:vw.length≤vw'.length
 Fc:∀b,b<vw.length→E'.Fc b=E.Fc b
 T:∀b,E.T b→E'.T b
 S:∀b,E.S b→E'.S b
 st:∀b,E.S b→E.T b
 heap:∀b,E.T b→w'.heap[b]? =w.heap[b]?
 box:∀b d r rows,b<vw.length→vw'[b]? =some (.sl d r rows)→ ∃d0 L9,vw[b]? =some (.sl d0 r L9)∧
  ∀p,CJ r L9 p→ ∀q ys,EY r L9 p=some ⟨q,ys⟩→CJ r rows p∧(∃dS,EY r rows p=some ⟨q,dS⟩∧List.length dS=List.length ys)∧
   ∀h,Gw w (E.Fq b) p=some h→Gw w' (E'.Fq b) p=some h
theorem K8{α:Type}{l l':List α}{b:Nat}{x:α}(h:l.length≤l'.length)(e:l[b]? =some x):∃y,l'[b]? =some y:=
 ⟨l'[b]'(AIm (AF9.1 e).1 h),AGI _⟩
theorem D_{E E':Env}{w w':World}{vw vw':List Bx}(k:Nk E w vw E' w' vw'):∀{x:AV} {v:Value},VR E w vw x v→VR E' w' vw' x v:=by
 intro x v h;cases x with
 |v t x=>exact⟨h.1,DT (fun _ h=>h) (fun _ h=>h.elim) h.2⟩
 |sl s r x=>
  simp only[VR]at h⊢;cases s with
  |false=>exact DT k.T k.heap (by simpa using h)
  |true=>exact DT k.S (fun b hb=>k.heap b (k.st b hb)) (by simpa using h)
 |nil=>exact h
 |ref b p=>
  simp only[VR]at h⊢;obtain⟨h0,h⟩:=h;refine⟨h0,?_⟩;cases e:vw[b]? with
  |none=>rw[e]at h;exact h.elim
  |some B=>
   rw[e]at h;have Dl:=(AF9.1 e).1;obtain⟨B',e'⟩:=K8 k.len e;rw[e'];cases B' with
   |mem cs=>trivial
   |dead=>trivial
   |sl d r rows=>
    obtain⟨d0,L9,e0,hk⟩:=k.box b d r rows Dl e';rw[e]at e0;cases e0;simp only at h;obtain⟨hp,⟨⟨q,ys⟩,hg⟩,hh⟩:=h;obtain⟨k1,⟨dS,k2,_⟩,k3⟩:=hk p hp q ys hg;exact⟨k1,⟨_,k2⟩,k3 _ hh⟩
 |VP b p off n=>
  simp only[VR]at h⊢;obtain⟨h0,h⟩:=h;refine⟨h0,?_⟩;cases e:vw[b]? with
  |none=>rw[e]at h;exact h.elim
  |some B=>
   rw[e]at h;have Dl:=(AF9.1 e).1;obtain⟨B',e'⟩:=K8 k.len e;rw[e'];cases B' with
   |mem cs=>trivial
   |dead=>trivial
   |sl d r rows=>
    obtain⟨d0,L9,e0,hk⟩:=k.box b d r rows Dl e';rw[e]at e0;cases e0;simp only at h;obtain⟨hp,q,ys,a,len,cap,hg,hl,hh,hv⟩:=h;obtain⟨k1,⟨dS,k2,k4⟩,k3⟩:=hk p hp q ys hg;exact⟨k1,q,dS,a,len,cap,k2,by omega,k3 _ hh,hv⟩
 |FW b j=>exact⟨AIm h.1 k.len,by rw[h.2,k.Fc b h.1]⟩
 |Gq b p i sz j=>
  simp only[VR]at h⊢;obtain⟨h0,h⟩:=h;refine⟨h0,?_⟩;cases e:vw[b]? with
  |none=>rw[e]at h;exact h.elim
  |some B=>
   rw[e]at h;have Dl:=(AF9.1 e).1;obtain⟨B',e'⟩:=K8 k.len e;rw[e'];cases B' with
   |mem cs=>trivial
   |dead=>trivial
   |sl d r rows=>
    obtain⟨d0,L9,e0,hk⟩:=k.box b d r rows Dl e';rw[e]at e0;cases e0;simp only at h;obtain⟨hp,q,ys,bb,o,len,cap,hg,hl,hh,hv⟩:=h;obtain⟨k1,⟨dS,k2,k4⟩,k3⟩:=hk p hp q ys hg;exact⟨k1,q,dS,bb,o,len,cap,k2,by omega,k3 _ hh,hv⟩
 |J4 s r x j=>
  simp only[VR]at h⊢;obtain⟨bb,o,cs,hv,hb,hl,hc,hr⟩:=h;cases s with
  |false=>exact⟨bb,o,cs,hv,k.T bb (by simpa using hb),hl,hc.of_block (k.heap bb (by simpa using hb)),DT k.T k.heap (by simpa using hr)⟩
  |true=>exact⟨bb,o,cs,hv,k.S bb (by simpa using hb),hl,hc.of_block (k.heap bb (k.st bb (by simpa using hb))),DT k.S (fun b hb=>k.heap b (k.st b hb)) (by simpa using hr)⟩
 |fn f G6=>
  refine⟨fun b hb=>AIm (h.1 b hb) k.len,?_⟩;rw[h.2];congr 2;exact ALO fun b hb=>by rw[k.Fc b (h.1 b hb)]
 |gD f rows=>
  obtain⟨ps,hv,h⟩:=h;exact⟨ps,hv,h.imp fun q p ⟨bb,o,cs,h1,h2,h3,h4,h5⟩=>⟨bb,o,cs,h1,k.T bb h2,h3,h4.of_block (k.heap bb h2),DT k.T k.heap h5⟩⟩
 |lr=>exact h
 |undef=>trivial
theorem Ku{E E':Env}{w w':World}{vw vw':List Bx}(k:Nk E w vw E' w' vw'):∀{x:XV} {v:Value},XR E w vw x v→XR E' w' vw' x v
 | .c _,_,h=>D_ k h
 | .agg _,_,⟨vs,hv,h⟩=>⟨vs,hv,h.imp fun _ _ h=>D_ k h⟩
 | .Jy l,_,⟨vs,hv,h⟩=>⟨vs,hv,h.imp fun
  | .inl _,_,h=>D_ k h
  | .inr _,_,⟨ws,hw,h⟩=>⟨ws,hw,h.imp fun _ _ h=>D_ k h⟩⟩
theorem Nk.refl{E:Env}{w:World}{vw:List Bx}(st:∀b,E.S b→E.T b):Nk E w vw E w vw:=
 ⟨AIi _,fun _ _=>rfl,fun _ h=>h,fun _ h=>h,st,fun _ _=>rfl,fun b d r rows _ h=>⟨d,rows,h,fun p hp q ys hg=>⟨hp,⟨ys,hg,rfl⟩,fun _ h=>h⟩⟩⟩
theorem Nk.trans{E E' qE:Env}{w w' w'':World}{vw vw' AGc:List Bx}(k:Nk E w vw E' w' vw')(k':Nk E' w' vw' qE w'' AGc):Nk E w vw qE w'' AGc where
 len:=AIx k.len k'.len
 Fc:=fun b hb=>(k'.Fc b (AIm hb k.len)).trans (k.Fc b hb)
 T:=fun b h=>k'.T b (k.T b h)
 S:=fun b h=>k'.S b (k.S b h)
 st:=k.st
 heap:=fun b h=>(k'.heap b (k.T b h)).trans (k.heap b h)
 box:=fun b d r rows hb h=>by
  obtain⟨d1,z_,h1,k1⟩:=k'.box b d r rows (AIm hb k.len) h;obtain⟨d0,L9,h0,k0⟩:=k.box b d1 r z_ hb h1;refine⟨d0,L9,h0,fun p hp q ys hg=> ?_⟩;obtain⟨a1,⟨ys1,a2,a3⟩,a4⟩:=k0 p hp q ys hg;obtain⟨b1,⟨ys2,b2,b3⟩,b4⟩:=k1 p a1 q ys1 a2;exact⟨b1,⟨ys2,b2,b3.trans a3⟩,fun h hh=>b4 h (a4 h hh)⟩
theorem hI{w w':World}{S:Nat→Prop}{d:Nat}{r:Ty}{h:Value}{rows:List r.D}{F:AAU}(ho:Ow w S d (.sl r) [h] rows F)
  (hS:∀b,S b→w'.heap[b]? =w.heap[b]?) (hF:∀b∈F,w'.heap[b]? =w.heap[b]?) {p:List ae} (hp:CJ r rows p) {q:Ty} {ys:List q.D} (hg:EY r rows p=some ⟨q,ys⟩)
  {h':Value} (hh:Gw w h p=some h'):Gw w' h p=some h':=by
 obtain⟨h1,k,_⟩:=bl (SE ho) hp hg;have e1:=k w (fun _ _=>rfl);rw[hh]at e1;cases e1;exact k w' fun b hb=>hb.elim (hS b) (hF b)
end Go.Fw
end
section
namespace Go.Fw
theorem Bj.set{α β:Type}{R:α→β→Prop}:∀{l:List α} {m:List β} {i:Nat} {a:α} {b:β},Bj R l m→R a b→Bj R (l.set i a) (m.set i b)
 |[],[],_,_,_,_,_=>trivial
 |_::_,_::_,0,_,_,h,r=>⟨r,h.2⟩
 |_::_,_::_,i+1,_,_,h,r=>⟨h.1,Bj.set h.2 r⟩
theorem Bj.append{α β:Type}{R:α→β→Prop}:∀{l:List α} {m:List β} {l':List α} {m':List β},Bj R l m→Bj R l' m'→Bj R (l++l') (m++m')
 |[],[],_,_,_,h=>h
 |_::_,_::_,_,_,h,k=>⟨h.1,Bj.append h.2 k⟩
theorem Bj.Ie{α β γ:Type}{R:α→β→Prop}{S:γ→β→Prop}(f:α→γ)(h:∀a b,R a b→S (f a) b):∀{l:List α} {m:List β},Bj R l m→Bj S (l.map f) m
 |[],[],_=>trivial
 |_::_,_::_,k=>⟨h _ _ k.1,Bj.Ie f h k.2⟩
theorem Bj.drop{α β:Type}{R:α→β→Prop}:∀{l:List α} {m:List β} (n:Nat),Bj R l m→Bj R (l.drop n) (m.drop n)
 |_,_,0,h=>h
 |[],[],_+1,_=>trivial
 |_::_,_::_,n+1,h=>Bj.drop n h.2
theorem Bj.take{α β:Type}{R:α→β→Prop}:∀{l:List α} {m:List β} (n:Nat),Bj R l m→Bj R (l.take n) (m.take n)
 |[],[],0,_=>trivial
 |_::_,_::_,0,_=>trivial
 |[],[],_+1,_=>trivial
 |_::_,_::_,n+1,h=>⟨h.1,Bj.take n h.2⟩
structure Wr (E0:Env) (w0:World) (E:Env) (w:World):Prop where
 T:∀c,E0.T c→E.T c
 S:∀c,E0.S c→E.S c
 sb:∀c,E.T c→E0.T c∨E.S c
 nJ:∀c,E.S c→E0.S c∨ ¬E0.T c
 heap:∀c,E0.T c→w.heap[c]? =w0.heap[c]?
 os:w.os=w0.os
 tape:w.tape=w0.tape
 output:w.output=w0.output
 size:w0.heap.size≤w.heap.size
theorem Wr.refl(E:Env)(w:World):Wr E w E w:=⟨fun _ h=>h,fun _ h=>h,fun _ h=> .inl h,fun _ h=> .inl h,fun _ _=>rfl,rfl,rfl,rfl,AIi _⟩
theorem Wr.trans{E E' qE:Env}{w w' w'':World}(h:Wr E w E' w')(k:Wr E' w' qE w''):Wr E w qE w'':=
 ⟨fun c hc=>k.T c (h.T c hc),fun c hc=>k.S c (h.S c hc),fun c hc=>(k.sb c hc).elim (fun h' =>(h.sb c h').imp id (k.S c)) .inr,
  fun c hc=>(k.nJ c hc).elim (h.nJ c) (fun h' => .inr fun ht=>h' (h.T c ht)),fun c hc=>(k.heap c (h.T c hc)).trans (h.heap c hc),
  k.os.trans h.os,k.tape.trans h.tape,k.output.trans h.output,AIx h.size k.size⟩
theorem Le.base{E E':Env}(h:Le E E')(w:World):Wr E w E' w:=⟨h.T,h.S,h.sb,h.nJ,fun _ _=>rfl,rfl,rfl,rfl,AIi _⟩
def kt(E:Env)(w:World)(k:Nat):Bx→Nat→Prop
 | .mem _,c=>c=E.Fc k
 | .sl _ r rows,c=>RB w (.sl r) [E.Fq k] rows c
 | .dead,_=>False
def PZ:Bx→Bx→Prop
 | .mem _,.mem _=>True
 | .sl _ r x,.sl _ q y=>(⟨r,x⟩:(r:Ty)×List r.D)=⟨q,y⟩
 |_,_=>False
structure MV (t:AAU) (E0:Env) (bx0:List Bx) (w0:World) (E:Env) (bx:List Bx) (w:World):Prop where
 base:Wr E0 w0 E w
 len:bx0.length≤bx.length
 ids:∀b,b<bx0.length→E.Fc b=E0.Fc b∧E.Fq b=E0.Fq b
 dead:∀b:Nat,bx0[b]? =some Bx.dead→bx[b]? =some Bx.dead
 frame:∀(n:Nat) B B',n∉t→bx0[n]? =some B→bx[n]? =some B'→B'≠ .dead→PZ B B'∧ ∀c,kt E0 w0 n B c→w.heap[c]? =w0.heap[c]?
theorem MV.any{E E':Env}{bx Ls:List Bx}{w w':World}(h:MV [] E bx w E' Ls w'){t:AAU}:MV t E bx w E' Ls w':=
 ⟨h.base,h.len,h.ids,h.dead,fun n B B' _=>h.frame n B B' (by simp)⟩
theorem PZ.refl{B:Bx}(h:B≠ .dead):PZ B B:=by cases B<;>simp_all[PZ]
theorem MV.refl(t:AAU)(E:Env)(bx:List Bx)(w:World):MV t E bx w E bx w:=⟨Wr.refl E w,AIi _,fun _ _=>⟨rfl,rfl⟩,fun _ h=>h,fun n B B' _ h h' hd=>by
 rw[h]at h';cases h';exact⟨PZ.refl hd,fun _ _=>rfl⟩⟩
theorem Wa{E:Env}{w:World}{vw:List Bx}{k:Nat}{B:Bx}{F:AAU}{c:Nat}(h:dV E w vw k B F)(hc:kt E w k B c):E.S c∨c∈F:=by
 cases B with
 |mem cs=>obtain⟨rfl,_⟩:=h;right;simp[kt]at hc;simp[hc]
 |sl d r rows=>exact ir (SE h.2) hc
 |dead=>exact hc.elim
structure Rel (E:Env) (σ:St) (a:Act) (w:World):Prop where
 Jq:a.defers=[]
 tm:Bj (XR E w σ.bx) σ.tm a.tmps.toList
 bx:CD E w σ.bx σ.bx []
theorem Rel.put{E:Env}{σ:St}{a:Act}{w:World}(h:Rel E σ a w)(dst:Option Tmp){x:XV}{v:Value}(hx:XR E w σ.bx x v):Rel E (σ.put dst x) (a.put dst v) w:=by
 cases dst with
 |none=>exact h
 |some d=>exact⟨h.Jq,by simpa[St.put,Act.put]using Bj.set h.tm hx,h.bx⟩
theorem Bj.ACC{E:Env}{w:World}{vw:List Bx}{l:List XV}{m:Array Value}(h:Bj (XR E w vw) l m.toList)(t:Nat):XR E w vw (l.getD t (.c .undef)) (m.getD t undef):=by
 by_cases ht:t<l.length
 ·have e:l[t]? =some l[t]:=AGI ht
  obtain⟨b,hb,hr⟩:=h.get e;have:m[t]? =some b:=by simpa using hb
  simp only[AKg,e,AKX,ALG,this];exact hr
 ·have e:l[t]? =none:=by simp;omega
  simp only[AKg,e,Option.getD_none]
  trivial
theorem gM{E:Env}{w:World}{vw:List Bx}(v:Value):VR E w vw (dk v) v:=by
 unfold dk;split<;>first
  |trivial
  |exact⟨rfl,by simp[Rd]⟩
  |rfl
theorem aX{E:Env}{w:World}{vw:List Bx}:∀(l:List Value),YB E w vw (l.map dk) l
 |[]=>trivial
 |a::l=>⟨gM a,aX l⟩
theorem lK{E:Env}{w:World}{vw:List Bx}(v:Value):XR E w vw (ofValue v) v:=by
 unfold ofValue;split
 ·rename_i cs
  exact⟨cs,rfl,aX cs.toList⟩
 ·exact gM v
theorem Rel.ev{E:Env}{σ:St}{a:Act}{w:World}(h:Rel E σ a w)(x:Operand):XR E w σ.bx (σ.ev x) (a.eval x):=by
 cases x with
 |tmp t=>exact Bj.ACC h.tm t
 |const v=>exact lK v
 |global g=>trivial
 |func f=>exact⟨by simp,rfl⟩
theorem O3{b:Nat}:∀{Fs:List AAU} {F:AAU},Fs[b]? =some F→Fs.flatten.Perm (F++(Fs.set b []).flatten):=by
 induction b with
 |zero=>
  intro Fs F h;cases Fs with
  |nil=>simp at h
  |cons A l=>simp at h;subst h;simp
 |succ b ih=>
  intro Fs F h;cases Fs with
  |nil=>simp at h
  |cons A l=>
   have:=ih (Fs:=l) (F:=F) (by simpa using h);simp only[List.set_cons_succ,AI2];refine(AIZ A this).trans ?_
   rw[←AGq,←AGq];exact AIS _ AIa
theorem Sep.perm{E:Env}{w:World}{F F':AAU}(h:Sep E w F)(p:F.Perm F'):Sep E w F':=
 ⟨p.nodup_iff.1 h.nodup,fun c hc=>h.free c (p.mem_iff.2 hc),fun c hc=>h.lt c (p.mem_iff.2 hc),h.st,h.W0⟩
theorem Sep.sub{E:Env}{w:World}{F F':AAU}(h:Sep E w (F++F')):Sep E w F:=
 ⟨(AHW.1 h.nodup).1,fun c hc=>h.free c (by simp[hc]),fun c hc=>h.lt c (by simp[hc]),h.st,h.W0⟩
theorem CD.perm{E:Env}{w:World}{vw bx:List Bx}{G G':AAU}(h:CD E w vw bx G)(p:G.Perm G'):CD E w vw bx G':=
 let⟨Fs,h1,h2⟩:=h
 ⟨Fs,h1,h2.perm (AIZ _ p)⟩
theorem CD.drop{E:Env}{w:World}{vw bx:List Bx}{G G':AAU}(h:CD E w vw bx (G++G')):CD E w vw bx G:=
 let⟨Fs,h1,h2⟩:=h
 ⟨Fs,h1,by rw[←AGq]at h2;exact h2.sub⟩
theorem CD.st{E:Env}{w:World}{vw bx:List Bx}{G:AAU}(h:CD E w vw bx G):∀c,E.S c→E.T c:=let⟨_,_,h⟩:=h;h.st
theorem CD.W0{E:Env}{w:World}{vw bx:List Bx}{G:AAU}(h:CD E w vw bx G):∀c,E.T c→c<w.heap.size:=let⟨_,_,h⟩:=h;h.W0
theorem CD.qf{E:Env}{w:World}{vw bx:List Bx}{G:AAU}(h:CD E w vw bx G):∀c∈G,¬E.T c:=let⟨_,_,h⟩:=h;fun c hc=>h.free c (by simp[hc])
theorem CD.take{E:Env}{w:World}{vw bx:List Bx}{G:AAU}(h:CD E w vw bx G){b:Nat}{B:Bx}(hb:bx[b]? =some B):
  ∃F,dV E w vw b B F∧CD E w vw (bx.set b .dead) (F++G):=by
 obtain⟨Fs,⟨hl,h1⟩,h2⟩:=h;have Dl:=(AF9.1 hb).1;have hF:Fs[b]? =some (Fs[b]'(by omega)):=AGI _;refine⟨_,h1 b B _ hb hF,Fs.set b [],⟨by simpa using hl,fun k C F hk lA=> ?_⟩,h2.perm ?_⟩
 ·by_cases e:k=b
  ·subst e
   rw[AH0 (by omega)]at hk lA;cases hk;cases lA;rfl
  ·rw[AHF (by omega)]at hk lA
   exact h1 k C F hk lA
 ·have:=AIS G (O3 hF)
  refine this.trans ?_
  rw[AGq,←AGq (List.flatten _)];refine(AIa (l₁:=Fs[b]'(by omega))).trans ?_
  rw[AGq,AGq];exact AIZ _ AIa
theorem CD.put{E:Env}{w:World}{vw bx:List Bx}{F G:AAU}(h:CD E w vw bx (F++G)){b:Nat}{B:Bx}(hb:bx[b]? =some .dead)(hB:dV E w vw b B F):
  CD E w vw (bx.set b B) G:=by
 obtain⟨Fs,⟨hl,h1⟩,h2⟩:=h;have Dl:=(AF9.1 hb).1;have hF:Fs[b]? =some (Fs[b]'(by omega)):=AGI _;have e0:Fs[b]'(by omega)=[]:=h1 b _ _ hb hF;refine⟨Fs.set b F,⟨by simpa using hl,fun k C F' hk lA=> ?_⟩,h2.perm ?_⟩
 ·by_cases e:k=b
  ·subst e
   rw[AH0 (by omega)]at hk lA;cases hk;cases lA;exact hB
  ·rw[AHF (by omega)]at hk lA
   exact h1 k C F' hk lA
 ·have p:(Fs.set b F).flatten.Perm (F++Fs.flatten):=by
   have p1:=O3 (Fs:=Fs.set b F) (b:=b) (F:=F) (AH0 (by omega));rw[ALg]at p1;have p2:=O3 hF;rw[e0,AIf]at p2;exact p1.trans (AIZ _ p2.symm)
  refine List.Perm.symm ?_
  refine(AIS G p).trans ?_
  rw[←AGq];exact AIS _ AIa
theorem CD.push{E:Env}{w:World}{vw bx:List Bx}{F G:AAU}(h:CD E w vw bx (F++G)){B:Bx}(hB:dV E w vw bx.length B F):
  CD E w vw (bx++[B]) G:=by
 obtain⟨Fs,⟨hl,h1⟩,h2⟩:=h;refine⟨Fs++[F],⟨by simp[hl],fun k C F' hk lA=> ?_⟩,h2.perm (by simp)⟩;by_cases e:k<bx.length
 ·rw[AG0 (by omega)]at hk lA
  exact h1 k C F' hk lA
 ·have hk':=(AF9.1 hk).1
  simp at hk';obtain rfl:k=bx.length:=by omega
  rw[AIC (by omega)]at hk lA;simp[hl]at hk lA;subst hk lA;exact hB
theorem CD.turn{E E':Env}{w w':World}{vw vw' bx:List Bx}{G:AAU}(h:CD E w vw bx G)(k:∀x v,VR E w vw x v→VR E' w' vw' x v)
  (hS:∀c,E.S c→E'.S c) (iW:∀b,b<bx.length→E'.Fc b=E.Fc b) (V1:∀b,b<bx.length→E'.Fq b=E.Fq b)
  (hw:∀c,(E.S c∨(¬E.T c∧c∉G))→c<w.heap.size→w'.heap[c]? =w.heap[c]?)
  (rU:∀F,Sep E w (F++G)→Sep E' w' (F++G)):CD E' w' vw' bx G:=by
 obtain⟨Fs,⟨hl,h1⟩,h2⟩:=h;refine⟨Fs,⟨hl,fun n B F hn hF=> ?_⟩,rU _ h2⟩;have Dl:=(AF9.1 hn).1;have h3:=h1 n B F hn hF;have lO:∀c∈F,c∈Fs.flatten:=fun c hc=>AIb.2 ⟨F,AH9 hF,hc⟩
 have hFw:∀c∈F,w'.heap[c]? =w.heap[c]?:=fun c hc=>hw c (.inr ⟨h2.free c (by simp[lO c hc]),fun hg=>by
  have:=(AHW.1 h2.nodup).2.2 c (lO c hc) c hg;exact this rfl⟩) (h2.lt c (by simp[lO c hc]))
 have ew:∀c,E.S c→w'.heap[c]? =w.heap[c]?:=fun c hc=>hw c (.inl hc) (h2.W0 c (h2.st c hc))
 cases B with
 |mem cs=>
  obtain⟨rfl,arr,ty,fr,ha,hu,hv⟩:=h3;refine⟨by rw[iW n Dl],arr,ty,fr,?_,hu,hv.imp k⟩;rw[iW n Dl,hFw _ (by simp),ha]
 |sl d r rows=>
  obtain⟨hd,ho⟩:=h3;refine⟨hd,?_⟩;rw[V1 n Dl];exact Cq hS ew hFw ho
 |dead=>exact h3
end Go.Fw
end
section
namespace Go.Fw
theorem Fh{β:Ty→Type}{a b:Ty}{x:β a}{y:β b}(h:Lt a b x=some y):∃e:a=b,e▸x=y:=by
 unfold Lt at h;split at h
 ·rename_i e
  exact⟨e,by simpa using h⟩
 ·cases h
def DO(bk vw:List Bx):Prop:= ∀(b:Nat) (B:Bx),bk[b]? =some B→B= .dead∨vw[b]? =some B
theorem DO.refl(bx:List Bx):DO bx bx:=fun _ _ h=> .inr h
theorem Addr.add_eq(b o n:Nat):(⟨b,o,none⟩:Addr).add n=⟨b,o+n,none⟩:=by unfold Addr.add;split<;>simp_all
theorem lP{w:World}{B:Nat→Prop}{r:Ty}{a:Option Addr}{len cap:Nat}{ys:List r.D}(h:Rd w B (.sl r) [.slice a len cap] ys){off n:Nat}(hn:off+n≤ys.length):
  Rd w B (.sl r) [ND r.n off n a cap] ((ys.drop off).take n):=by
 simp only[Rd]at h⊢;obtain⟨a',cap',e,hc,h⟩:=h;simp only[AId,Value.slice.injEq,AJo]at e;obtain⟨rfl,rfl,rfl⟩:=e;have hl:((ys.drop off).take n).length=n:=by simp;omega
 refine⟨_,_,by unfold ND;rw[hl],by rw[hl];omega,?_⟩;rw[hl];by_cases h0:n=0
 ·exact .inl h0
 ·rcases h with h|⟨b,o,rfl,hb,h⟩
  ·omega
  ·refine .inr ⟨b,o+off*r.n,?_,hb,fun i y hy=> ?_⟩
   ·rw[AGU (by omega)]
    simp[Addr.add_eq]
   ·have hi:=(AF9.1 hy).1
    rw[hl]at hi;rw[List.getElem?_take_of_lt hi,ALJ]at hy;obtain⟨cs,e1,e2,e3⟩:=h (off+i) y hy;refine⟨cs,e1,?_,e3⟩;rw[AJ3,←ALP]at e2;exact e2
def eX(E:Env)(Fs:List AAU)(c:Nat):Prop:=E.T c∨c∈Fs.flatten
section
variable{E:Env} {w:World} {vw bk:List Bx} {Fs:List AAU}
theorem JX.get(h:JX E w vw bk Fs){b:Nat}{B:Bx}(e:bk[b]? =some B):∃F,dV E w vw b B F∧ ∀c∈F,c∈Fs.flatten:=by
 have Dl:=(AF9.1 e).1;have hF:Fs[b]? =some (Fs[b]'(by rw[h.1];exact Dl)):=AGI _;exact⟨_,h.2 b B _ e hF,fun c hc=>AIb.2 ⟨_,AH9 hF,hc⟩⟩
theorem VW(hs:DO bk vw)(h:JX E w vw bk Fs)(st:∀c,E.S c→E.T c){b d:Nat}{r:Ty}{rows:List r.D}(e:bk[b]? =some (.sl d r rows))
  {p:List ae} (hp:CJ r rows p) {q:Ty} {ys:List q.D} (hg:EY r rows p=some ⟨q,ys⟩) {v:Value} (hh:Gw w (E.Fq b) p=some v):
  Rd w (eX E Fs) (.sl q) [v] ys:=by
 obtain⟨F,⟨_,ho⟩,hF⟩:=h.get e;obtain⟨h',k,hr⟩:=bl (SE ho) hp hg;have:=k w (fun _ _=>rfl);rw[hh]at this;cases this;exact DT (fun c hc=>hc.elim (fun hc=> .inl (st c hc)) (fun hc=> .inr (hF c hc))) (fun _ _=>rfl) hr
theorem Sl(hs:DO bk vw){b d:Nat}{r:Ty}{rows:List r.D}(e:bk[b]? =some (.sl d r rows)):vw[b]? =some (.sl d r rows):=by
 rcases hs b _ e with h|h
 ·cases h
 ·exact h
theorem TZ(hs:DO bk vw)(h:JX E w vw bk Fs)(st:∀c,E.S c→E.T c){x:AV}{v:Value}(hv:VR E w vw x v){q:Ty}{ys:List q.D}(e:Ja bk x=some ⟨q,ys⟩):
  Rd w (eX E Fs) (.sl q) [v] ys:=by
 cases x with
 |sl s r x=>
  simp only[Ja,AGL,AIM]at e;obtain⟨rfl,e⟩:=e;obtain rfl:=AIe e;simp only[VR]at hv;refine DT (fun c hc=> ?_) (fun _ _=>rfl) hv;cases s
  ·exact .inl (by simpa using hc)
  ·exact .inl (st c (by simpa using hc))
 |ref b p=>
  simp only[Ja]at e;split at e
  ·rename_i d r rows hb
   simp only[VR,Sl hs hb]at hv
   replace hv:=hv.2
   exact VW hs h st hb hv.1 e hv.2.2
  ·cases e
 |VP b p off n=>
  simp only[Ja]at e;split at e
  ·rename_i d r rows hb
   simp only[VR,Sl hs hb]at hv;obtain⟨_,hp,q',dS,a,len,cap,hg,hl,hh,rfl⟩:=hv;rw[hg]at e;simp only[Option.map_some,AGL,AIM]at e;obtain⟨rfl,e⟩:=e;obtain rfl:=AIe e;exact lP (VW hs h st hb hp hg hh) hl
  ·cases e
 |_=>simp[Ja]at e
theorem O2(hs:DO bk vw)(h:JX E w vw bk Fs)(st:∀c,E.S c→E.T c){t:Ty}{x:AV}{v:Value}(hv:VR E w vw x v){y:t.D}(e:JH bk t x=some y):
  Rd w (eX E Fs) t [v] y:=by
 have sl:∀(r:Ty) (x:AV) (v:Value) (y:List r.D),VR E w vw x v→((Ja bk x).bind fun q=>Lt (β:=fun r=>List r.D) q.1 r q.2)=some y→Rd w (eX E Fs) (.sl r) [v] y:=by
  intro r x v y hv e;rw[AGs]at e;obtain⟨⟨q,ys⟩,e1,e2⟩:=e;obtain⟨e3,e4⟩:=Fh e2;dsimp only at e3;subst e3;subst e4;exact TZ hs h st hv e1
 cases x with
 |v u z=>
  simp only[JH]at e;obtain⟨e1,e2⟩:=Fh e;subst e1;subst e2;exact DT (fun _ hc=>hc.elim) (fun _ hc=>hc.elim) hv.2
 |nil=>
  cases t with
  |sl r=>
   simp only[JH,AGL]at e;subst e;simp only[VR]at hv;subst hv;simp only[Rd];exact⟨none,0,rfl,by simp,.inl rfl⟩
  |_=>simp[JH]at e
 |_=>
  cases t with
  |sl r=>exact sl r _ _ y hv (by simpa only[JH]using e)
  |_=>simp[JH]at e
theorem XS(hs:DO bk vw)(h:JX E w vw bk Fs)(st:∀c,E.S c→E.T c):∀{r:Ty} {l:List AV} {vs:List Value} {x:r.D},YB E w vw l vs→FZ bk r l=some x→
  Rd w (eX E Fs) r vs x
 | .unit,[],[],x,_,_=>by simp only[Rd]
 | .cons c r,a::l,v::vs,x,hv,e=>by
  simp only[FZ,AGs,AGV]at e;obtain⟨y,e1,z,e2,rfl⟩:=e;simp only[Rd];exact⟨v,vs,rfl,O2 hs h st hv.1 e1,XS hs h st hv.2 e2⟩
 | .unit,_::_,_,_,_,e=>by simp[FZ]at e
 | .unit,[],_::_,_,hv,_=>hv.elim
 | .cons _ _,[],_,_,_,e=>by simp[FZ]at e
 | .cons _ _,_::_,[],_,hv,_=>hv.elim
 | .int _,_,_,_,_,e=>by simp[FZ]at e
 | .bool,_,_,_,_,e=>by simp[FZ]at e
 | .str,_,_,_,_,e=>by simp[FZ]at e
 | .sl _,_,_,_,_,e=>by simp[FZ]at e
theorem YS{E1:Env}{ky:List Bx}(hs:DO bk vw)(h:JX E w vw bk Fs)(st:∀c,E.S c→E.T c)(hT:∀c,eX E Fs c→E1.T c):
  ∀{r:Ty} {l:List AV} {vs:List Value} {x:r.D},YB E w vw l vs→FZ bk r l=some x→YB E1 w ky (dq r x) vs
 | .unit,[],[],x,_,_=>trivial
 | .cons c r,a::l,v::vs,x,hv,e=>by
  simp only[FZ,AGs,AGV]at e;obtain⟨y,e1,z,e2,rfl⟩:=e;have Ro:=O2 hs h st hv.1 e1;have tl:YB E1 w ky _ _:=YS hs h st hT hv.2 e2;cases c with
  |sl q=>
   refine⟨?_,tl⟩;simp only[VR];exact DT hT (fun _ _=>rfl) (by simpa using Ro)
  |int k=>exact⟨⟨rfl,by simpa only[Rd]using Ro⟩,tl⟩
  |bool=>exact⟨⟨rfl,by simpa only[Rd]using Ro⟩,tl⟩
  |str=>exact⟨⟨rfl,by simpa only[Rd]using Ro⟩,tl⟩
  |unit=>
   exfalso
   simp only[Rd]at Ro;cases Ro
  |cons c' r' =>
   exfalso
   cases a with
   |v u z=>
    simp only[JH]at e1;obtain⟨e3,_⟩:=Fh e1;subst e3;exact absurd hv.1.1 (by simp[Ty.scalar])
   |_=>simp[JH]at e1
 | .unit,_::_,_,_,_,e=>by simp[FZ]at e
 | .unit,[],_::_,_,hv,_=>hv.elim
 | .cons _ _,[],_,_,_,e=>by simp[FZ]at e
 | .cons _ _,_::_,[],_,hv,_=>hv.elim
 | .int _,_,_,_,_,e=>by simp[FZ]at e
 | .bool,_,_,_,_,e=>by simp[FZ]at e
 | .str,_,_,_,_,e=>by simp[FZ]at e
 | .sl _,_,_,_,_,e=>by simp[FZ]at e
end
end Go.Fw
end
section
namespace Go.Fw
def Ext(m m':K5):Prop:=m'.length=m.length∧ ∀(i b:Nat),m[i]? =some (some b)→m'[i]? =some (some b)
theorem Ext.refl(m:K5):Ext m m:=⟨rfl,fun _ _ h=>h⟩
theorem Ext.trans{m m' m'':K5}(h:Ext m m')(k:Ext m' m''):Ext m m'':=⟨k.1.trans h.1,fun i b e=>k.2 i b (h.2 i b e)⟩
def dM(m:K5):Prop:= ∀(i j b:Nat),m[i]? =some (some b)→m[j]? =some (some b)→i=j
theorem Vs{m m':K5}{i b:Nat}(e:m.put i b=some m'):Ext m m'∧m'[i]? =some (some b)∧(dM m→dM m'):=by
 unfold K5.put at e;split at e
 ·rename_i h
  split at e
  ·cases e
  ·rename_i hc
   cases e;have Dl:=(AF9.1 h).1;have sk:∀(k:Nat),m[k]?≠some (some b):=fun k hk=>hc (by
    rw[ALk];exact AH9 hk)
   refine⟨⟨by simp,fun k c hk=> ?_⟩,by simp[Dl],fun hi j k c hj hk=> ?_⟩
   ·by_cases e:k=i
    ·subst e;rw[h]at hk;cases hk
    ·rw[AHF (by omega)];exact hk
   ·by_cases e1:j=i<;>by_cases e2:k=i
    ·omega
    ·subst e1
     rw[AH0 Dl]at hj;rw[AHF (by omega)]at hk;cases hj;exact absurd hk (sk k)
    ·subst e2
     rw[AH0 Dl]at hk;rw[AHF (by omega)]at hj;cases hk;exact absurd hj (sk j)
    ·rw[AHF (by omega)]at hj hk
     exact hi j k c hj hk
 ·rename_i b' h
  split at e
  ·rename_i hb
   cases e;subst hb;exact⟨Ext.refl _,h,fun h=>h⟩
  ·cases e
 ·cases e
def Mo(m:K5):List Nat→List Nat→Prop
 |[],[]=>True
 |i::is,b::bs=>m[i]? =some (some b)∧Mo m is bs
 |_,_=>False
theorem Mo.ext{m m':K5}(h:Ext m m'):∀{is bs},Mo m is bs→Mo m' is bs
 |[],[],_=>trivial
 |_::_,_::_,k=>⟨h.2 _ _ k.1,Mo.ext h k.2⟩
theorem YV:∀{is bs:AAU} {m m':K5},UO m is bs=some m'→Ext m m'∧Mo m' is bs∧(dM m→dM m')
 |[],[],m,m',e=>by simp only[UO,AGL]at e;subst e;exact⟨Ext.refl _,trivial,fun h=>h⟩
 |i::is,b::bs,m,m',e=>by
  simp only[UO,AGs]at e;obtain⟨m1,e1,e2⟩:=e;obtain⟨a1,a2,a3⟩:=Vs e1;obtain⟨b1,b2,b3⟩:=YV e2;exact⟨a1.trans b1,⟨b1.2 _ _ a2,b2⟩,fun h=>b3 (a3 h)⟩
 |[],_::_,_,_,e=>by simp[UO]at e
 |_::_,[],_,_,e=>by simp[UO]at e
def Md(N:Nat)(m:K5):AP→AV→Prop
 | .ref i,x=> ∃b,(x= .ref b []∨(x= .nil∧b=N+i))∧m[i]? =some (some b)
 | .ptr i j,x=> ∃b,x= .FW b j∧m[i]? =some (some b)
 | .fn f G6,x=> ∃bs,x= .fn f bs∧Mo m G6 bs
 | .nil,x=>x= .nil
 | .Zf i sz,x=> ∃b k j,x= .ref b [⟨k,sz,j⟩]∧m[i]? =some (some b)
 |_,_=>True
theorem Md.ext{N:Nat}{m m':K5}(h:Ext m m'){p:AP}{x:AV}(k:Md N m p x):Md N m' p x:=by
 cases p with
 |ref i=>obtain⟨b,hx,k⟩:=k;exact⟨b,hx,h.2 _ _ k⟩
 |ptr i j=>obtain⟨b,rfl,k⟩:=k;exact⟨b,rfl,h.2 _ _ k⟩
 |fn f G6=>obtain⟨bs,rfl,k⟩:=k;exact⟨bs,rfl,k.ext h⟩
 |nil=>exact k
 |Zf i sz=>obtain⟨b,q,j,rfl,k⟩:=k;exact⟨b,q,j,rfl,h.2 _ _ k⟩
 |_=>trivial
theorem Vj{N:Nat}{m m':K5}{p:AP}{x:AV}(e:p.Jw N m x=some m'):Ext m m'∧Md N m' p x∧(dM m→dM m'):=by
 cases p with
 |ref i=>
  cases x with
  |ref b q=>
   cases q with
   |nil=>
    obtain⟨a,b,c⟩:=Vs (by simpa only[AP.Jw]using e);exact⟨a,⟨_,.inl rfl,b⟩,c⟩
   |cons _ _=>simp[AP.Jw]at e
  |nil=>
   obtain⟨a,b,c⟩:=Vs (by simpa only[AP.Jw]using e);exact⟨a,⟨_,.inr ⟨rfl,rfl⟩,b⟩,c⟩
  |_=>simp[AP.Jw]at e
 |ptr i j=>
  cases x with
  |FW b j' =>
   simp only[AP.Jw]at e;split at e
   ·rename_i hj
    subst hj;obtain⟨a,b,c⟩:=Vs e;exact⟨a,⟨_,rfl,b⟩,c⟩
   ·cases e
  |_=>simp[AP.Jw]at e
 |fn f G6=>
  cases x with
  |fn g bs=>
   simp only[AP.Jw]at e;split at e
   ·rename_i hf
    subst hf;obtain⟨a,b,c⟩:=YV e;exact⟨a,⟨_,rfl,b⟩,c⟩
   ·cases e
  |_=>simp[AP.Jw]at e
 |nil=>
  cases x with
  |nil=>simp only[AP.Jw,AGL]at e;subst e;exact⟨Ext.refl _,rfl,fun h=>h⟩
  |_=>simp[AP.Jw]at e
 |Zf i sz=>
  cases x with
  |ref b q=>
   cases q with
   |nil=>simp[AP.Jw]at e
   |cons s q=>
    cases q with
    |nil=>
     simp only[AP.Jw]at e;split at e
     ·rename_i hs
      obtain⟨a,b,c⟩:=Vs e;obtain⟨k,z,y⟩:=s;dsimp only at hs;subst hs;exact⟨a,⟨_,k,y,rfl,b⟩,c⟩
     ·cases e
    |cons _ _=>simp[AP.Jw]at e
  |_=>simp[AP.Jw]at e
 |_=>
  have:m=m':=by cases x<;>simpa[AP.Jw]using e
  subst this;exact⟨Ext.refl _,trivial,fun h=>h⟩
theorem P9{N:Nat}:∀{l:List AP} {xs:List AV} {m m':K5},Rn.Jw N m l xs=some m'→Ext m m'∧Bj (Md N m') l xs∧(dM m→dM m')
 |[],[],m,m',e=>by simp only[Rn.Jw,AGL]at e;subst e;exact⟨Ext.refl _,trivial,fun h=>h⟩
 |p::l,x::xs,m,m',e=>by
  simp only[Rn.Jw,AGs]at e;obtain⟨m1,e1,e2⟩:=e;obtain⟨a1,a2,a3⟩:=Vj e1;obtain⟨b1,b2,b3⟩:=P9 e2;exact⟨a1.trans b1,⟨a2.ext b1,b2⟩,fun h=>b3 (a3 h)⟩
 |[],_::_,_,_,e=>by simp[Rn.Jw]at e
 |_::_,[],_,_,e=>by simp[Rn.Jw]at e
def Xj(N:Nat)(m:K5):AP ⊕ List AP→AV ⊕ List AV→Prop
 | .inl p,.inl x=>Md N m p x
 | .inr p,.inr x=>Bj (Md N m) p x
 |_,_=>False
theorem Xj.ext{N:Nat}{m m':K5}(h:Ext m m'):∀{p:AP ⊕ List AP} {x:AV ⊕ List AV},Xj N m p x→Xj N m' p x
 | .inl _,.inl _,k=>Md.ext h k
 | .inr _,.inr _,k=>Bj.imp (fun _ _ k=>Md.ext h k) k
theorem UH{N:Nat}:∀{l:List (AP ⊕ List AP)} {xs:List (AV ⊕ List AV)} {m m':K5},R_.Jw N m l xs=some m'→Ext m m'∧Bj (Xj N m') l xs∧(dM m→dM m')
 |[],[],m,m',e=>by simp only[R_.Jw,AGL]at e;subst e;exact⟨Ext.refl _,trivial,fun h=>h⟩
 | .inl p::l,.inl x::xs,m,m',e=>by
  simp only[R_.Jw,AGs]at e;obtain⟨m1,e1,e2⟩:=e;obtain⟨a1,a2,a3⟩:=Vj e1;obtain⟨b1,b2,b3⟩:=UH e2;exact⟨a1.trans b1,⟨Md.ext b1 a2,b2⟩,fun h=>b3 (a3 h)⟩
 | .inr p::l,.inr x::xs,m,m',e=>by
  simp only[R_.Jw,AGs]at e;obtain⟨m1,e1,e2⟩:=e;obtain⟨a1,a2,a3⟩:=P9 e1;obtain⟨b1,b2,b3⟩:=UH e2;exact⟨a1.trans b1,⟨Bj.imp (fun _ _ k=>Md.ext b1 k) a2,b2⟩,fun h=>b3 (a3 h)⟩
 |[],_::_,_,_,e=>by simp[R_.Jw]at e
 | .inl _::_,[],_,_,e=>by simp[R_.Jw]at e
 | .inr _::_,[],_,_,e=>by simp[R_.Jw]at e
 | .inl _::_,.inr _::_,_,_,e=>by simp[R_.Jw]at e
 | .inr _::_,.inl _::_,_,_,e=>by simp[R_.Jw]at e
def Uh(N:Nat)(m:K5):XP→XV→Prop
 | .c p,.c x=>Md N m p x
 | .agg l,.agg xs=>Bj (Md N m) l xs
 | .row _,.agg _=>True
 | .Jy l,.Jy xs=>Bj (Xj N m) l xs
 |_,_=>False
theorem Uh.ext{N:Nat}{m m':K5}(h:Ext m m'):∀{p:XP} {x:XV},Uh N m p x→Uh N m' p x
 | .c _,.c _,k=>Md.ext h k
 | .agg _,.agg _,k=>Bj.imp (fun _ _ k=>Md.ext h k) k
 | .row _,.agg _,_=>trivial
 | .Jy _,.Jy _,k=>Bj.imp (fun _ _ k=>Xj.ext h k) k
theorem jx{N:Nat}{m m':K5}:∀{p:XP} {x:XV},p.Jw N m x=some m'→Ext m m'∧Uh N m' p x∧(dM m→dM m')
 | .c p,.c x,e=>Vj (by simpa only[XP.Jw]using e)
 | .agg l,.agg xs,e=>P9 (by simpa only[XP.Jw]using e)
 | .row r,.agg xs,e=>by simp only[XP.Jw,AGL]at e;subst e;exact⟨Ext.refl _,trivial,fun h=>h⟩
 | .Jy l,.Jy xs,e=>UH (by simpa only[XP.Jw]using e)
 | .c _,.agg _,e=>by simp[XP.Jw]at e
 | .c _,.Jy _,e=>by simp[XP.Jw]at e
 | .agg _,.c _,e=>by simp[XP.Jw]at e
 | .agg _,.Jy _,e=>by simp[XP.Jw]at e
 | .row _,.c _,e=>by simp[XP.Jw]at e
 | .row _,.Jy _,e=>by simp[XP.Jw]at e
 | .Jy _,.c _,e=>by simp[XP.Jw]at e
 | .Jy _,.agg _,e=>by simp[XP.Jw]at e
theorem V8{N:Nat}{tm:List XV}:∀{l:List (Nat×XP)} {m m':K5},Eg.Jw N tm m l=some m'→
  Ext m m'∧(∀q∈l,∃x,tm[q.1]? =some x∧Uh N m' q.2 x)∧(dM m→dM m')
 |[],m,m',e=>by simp only[Eg.Jw,AGL]at e;subst e;exact⟨Ext.refl _,by simp,fun h=>h⟩
 |(i,p)::l,m,m',e=>by
  simp only[Eg.Jw]at e;split at e
  ·rename_i x hx
   simp only[AGs]at e;obtain⟨m1,e1,e2⟩:=e;obtain⟨a1,a2,a3⟩:=jx e1;obtain⟨b1,b2,b3⟩:=V8 e2;refine⟨a1.trans b1,?_,fun h=>b3 (a3 h)⟩;intro q hq;rcases AIU.1 hq with rfl|hq
   ·exact⟨x,hx,Uh.ext b1 a2⟩
   ·exact b2 q hq
  ·cases e
theorem QY{N:Nat}{bx:List Bx}:∀{l:List BP} {i:Nat} {m m':K5},GY.Jw N bx i m l=some m'→
  Ext m m'∧(∀(k:Nat) q,l[k]? =some (.mem q)→ ∃b cs,m'[i+k]? =some (some b)∧bx[b]? =some (.mem cs)∧Bj (Md N m') q cs)∧
   (∀(k:Nat) d r,l[k]? =some (.sl d r)→ ∃b,m'[i+k]? =some (some b))∧(dM m→dM m')
 |[],i,m,m',e=>by simp only[GY.Jw,AGL]at e;subst e;exact⟨Ext.refl _,by simp,by simp,fun h=>h⟩
 | .mem q::l,i,m,m',e=>by
  simp only[GY.Jw]at e;split at e
  ·rename_i b hb
   split at e
   ·rename_i cs pd
    simp only[AGs]at e;obtain⟨m1,e1,e2⟩:=e;obtain⟨a1,a2,a3⟩:=P9 e1;obtain⟨b1,b2,b4,b3⟩:=QY e2;refine⟨a1.trans b1,?_,?_,fun h=>b3 (a3 h)⟩
    ·intro k q' hk
     cases k with
     |zero=>cases hk;exact⟨b,cs,b1.2 _ _ (a1.2 _ _ hb),pd,Bj.imp (fun _ _ k=>Md.ext b1 k) a2⟩
     |succ k=>
      have:=b2 k q' (by simpa using hk)
      rwa [show i+1+k=i+(k+1)by omega]at this
    ·intro k d r hk
     cases k with
     |zero=>cases hk
     |succ k=>
      have:=b4 k d r (by simpa using hk)
      rwa [show i+1+k=i+(k+1)by omega]at this
   ·cases e
  ·cases e
 | .sl d r::l,i,m,m',e=>by
  simp only[GY.Jw]at e;split at e
  ·rename_i b hb
   obtain⟨b1,b2,b4,b3⟩:=QY e;refine⟨b1,?_,?_,b3⟩
   ·intro k q' hk
    cases k with
    |zero=>cases hk
    |succ k=>
     have:=b2 k q' (by simpa using hk)
     rwa [show i+1+k=i+(k+1)by omega]at this
   ·intro k d r hk
    cases k with
    |zero=>exact⟨b,b1.2 _ _ hb⟩
    |succ k=>
     have:=b4 k d r (by simpa using hk)
     rwa [show i+1+k=i+(k+1)by omega]at this
  ·cases e
 | .gone::l,i,m,m',e=>by
  simp only[GY.Jw]at e;obtain⟨b1,b2,b4,b3⟩:=QY e;refine⟨b1,?_,?_,b3⟩
  ·intro k q' hk
   cases k with
   |zero=>cases hk
   |succ k=>
    have:=b2 k q' (by simpa using hk)
    rwa [show i+1+k=i+(k+1)by omega]at this
  ·intro k d r hk
   cases k with
   |zero=>cases hk
   |succ k=>
    have:=b4 k d r (by simpa using hk)
    rwa [show i+1+k=i+(k+1)by omega]at this
theorem Mi{bx bk:List Bx}{G5:Nat→Nat}:∀{l:List BP} {m:K5} {x:GY.V l},GY.get bx bk m l=some x→(GY.mk G5 l x).length=l.length∧
  ∀(k:Nat) p,l[k]? =some p→ ∃y:p.V,(GY.mk G5 l x)[k]? =some (p.mk G5 y)∧
   match p,y with
   | .mem q,y=> ∃b cs,m[k]? =some (some b)∧bx[b]? =some (.mem cs)∧Rn.get bk q cs=some y
   | .sl d r,y=> ∃b d',m[k]? =some (some b)∧bx[b]? =some (.sl d' r y)∧1≤d∧d≤d'
   | .gone,_=>True
 |[],m,x,e=>⟨rfl,by simp⟩
 | .mem q::l,some b::m,x,e=>by
  simp only[GY.get]at e;split at e
  ·rename_i cs pd
   simp only[AGs,AGV]at e;obtain⟨a,e1,c,e2,rfl⟩:=e;obtain⟨h1,h2⟩:=Mi (G5:=G5) e2;refine⟨by simp[GY.mk,h1],fun k p hk=> ?_⟩;cases k with
   |zero=>cases hk;exact⟨a,rfl,b,cs,rfl,pd,e1⟩
   |succ k=>
    obtain⟨y,k1,k2⟩:=h2 k p (by simpa using hk);exact⟨y,by simpa[GY.mk]using k1,by simpa using k2⟩
  ·cases e
 | .sl d r::l,some b::m,x,e=>by
  simp only[GY.get]at e;split at e
  ·rename_i d' q rows hb
   split at e
   ·rename_i hd
    simp only[AGs,AGV]at e;obtain⟨a,e1,c,e2,rfl⟩:=e;obtain⟨e3,e4⟩:=Fh e1;subst e3;subst e4;obtain⟨h1,h2⟩:=Mi (G5:=G5) e2;refine⟨by simp[GY.mk,h1],fun k p hk=> ?_⟩;cases k with
    |zero=>cases hk;exact⟨rows,rfl,b,d',rfl,hb,hd.1,hd.2⟩
    |succ k=>
     obtain⟨y,k1,k2⟩:=h2 k p (by simpa using hk);exact⟨y,by simpa[GY.mk]using k1,by simpa using k2⟩
   ·cases e
  ·cases e
 | .gone::l,o::m,x,e=>by
  have e':(GY.get bx bk m l).map (fun c=>((),c))=some x:=by cases o<;>simpa only[GY.get]using e
  simp only[AGV]at e';obtain⟨c,e2,rfl⟩:=e';obtain⟨h1,h2⟩:=Mi (G5:=G5) e2;refine⟨by simp[GY.mk,h1],fun k p hk=> ?_⟩;cases k with
  |zero=>cases hk;exact⟨(),rfl,trivial⟩
  |succ k=>
   obtain⟨y,k1,k2⟩:=h2 k p (by simpa using hk);exact⟨y,by simpa[GY.mk]using k1,by simpa using k2⟩
 | .mem q::l,none::m,x,e=>by simp[GY.get]at e
 | .sl d r::l,none::m,x,e=>by simp[GY.get]at e
 | .mem _::_,[],x,e=>by simp[GY.get]at e
 | .sl _ _::_,[],x,e=>by simp[GY.get]at e
 | .gone::_,[],x,e=>by simp[GY.get]at e
theorem FR:∀{m:K5} {bx:List Bx},(B7 bx m).length=bx.length
 |[],_=>rfl
 |some b::m,bx=>by simp[B7,FR]
 |none::m,bx=>by simp[B7,FR]
theorem M5:∀{m:K5} {bx vw:List Bx},DO bx vw→DO (B7 bx m) vw
 |[],_,_,h=>h
 |none::m,bx,vw,h=>by simp only[B7];exact M5 h
 |some b::m,bx,vw,h=>by
  simp only[B7];refine M5 fun k B hk=> ?_
  by_cases e:k=b
  ·subst e
   have Dl:=(AF9.1 hk).1;rw[AH0 (by simpa using Dl)]at hk;cases hk;exact .inl rfl
  ·rw[AHF (by omega)]at hk
   exact h k B hk
theorem QM:∀{m:K5} {bx:List Bx} {b:Nat} {B:Bx},some b∈m→(B7 bx m)[b]? =some B→B= .dead
 |some c::m,bx,b,B,h,e=>by
  simp only[B7]at e;by_cases hm:some b∈m
  ·exact QM hm e
  ·have:c=b:=by
    rcases AIU.1 h with h|h
    ·cases h;rfl
    ·exact absurd h hm
   subst this;have:∀{m:K5} {bx:List Bx},bx[c]? =some .dead→some c∉m→(B7 bx m)[c]? =some .dead:=by
    intro m
    induction m with
    |nil=>intro bx h _;exact h
    |cons o m ih=>
     intro bx h hn;cases o with
     |none=>simp only[B7];exact ih h (fun hh=>hn (AK8 _ hh))
     |some d=>
      simp only[B7];refine ih ?_ (fun hh=>hn (AK8 _ hh))
      have:d≠c:=fun hh=>hn (by subst hh;simp)
      rw[AHF (by omega)];exact h
   have Dl:c<bx.length:=by
    have:=(AF9.1 e).1;simpa[FR]using this
   have:=this (m:=m) (bx:=bx.set c .dead) (by simp[Dl]) hm;rw[this]at e;cases e;rfl
 |none::m,bx,b,B,h,e=>by
  simp only[B7]at e;exact QM (by simpa using h) e
theorem bm{E:Env}{w:World}{vw:List Bx}:∀{m:K5} {bx:List Bx} {G:AAU},dM m→CD E w vw bx G→
  ∃Gs:List AAU,Gs.length=m.length∧(∀(k b:Nat) B F,m[k]? =some (some b)→bx[b]? =some B→Gs[k]? =some F→dV E w vw b B F)∧
   CD E w vw (B7 bx m) (Gs.flatten++G)
 |[],bx,G,_,h=>⟨[],rfl,by simp,h⟩
 |none::m,bx,G,hi,h=>by
  obtain⟨Gs,h1,h2,h3⟩:=bm (m:=m) (fun i j b Dh hj=>by
   have:=hi (i+1) (j+1) b (by simpa using Dh) (by simpa using hj);omega) h
  refine⟨[]::Gs,by simp[h1],fun k b B F hk hB hF=> ?_,by simpa[B7]using h3⟩;cases k with
  |zero=>simp at hk
  |succ k=>exact h2 k b B F (by simpa using hk) hB (by simpa using hF)
 |some b::m,bx,G,hi,h=>by
  have zy:dM m:=fun i j b Dh hj=>by
   have:=hi (i+1) (j+1) b (by simpa using Dh) (by simpa using hj);omega
  cases e:bx[b]? with
  |none=>
   have PX:bx.set b .dead=bx:=List.set_eq_of_length_le (by simpa using e);obtain⟨Gs,h1,h2,h3⟩:=bm (m:=m) zy h;refine⟨[]::Gs,by simp[h1],fun k b' B F hk hB hF=> ?_,by simpa[B7,PX]using h3⟩;cases k with
   |zero=>simp at hk;subst hk;rw[e]at hB;cases hB
   |succ k=>exact h2 k b' B F (by simpa using hk) hB (by simpa using hF)
  |some B0=>
   obtain⟨F0,k1,k2⟩:=h.take e;obtain⟨Gs,h1,h2,h3⟩:=bm (m:=m) zy k2;refine⟨F0::Gs,by simp[h1],fun k b' B F hk hB hF=> ?_,?_⟩
   ·cases k with
    |zero=>
     simp at hk hF;subst hk hF;rw[e]at hB;cases hB;exact k1
    |succ k=>
     have YU:b'≠b:=fun hh=>by
      have:=hi 0 (k+1) b (by simp) (by subst hh;simpa using hk);omega
     exact h2 k b' B F (by simpa using hk) (by rw[AHF (by omega)];exact hB) (by simpa using hF)
   ·simp only[B7]
    refine h3.perm ?_
    rw[AI2,←AGq];exact AIS _ AIa
end Go.Fw
end
section
namespace Go.Fw
theorem cz{R:Nat→List Nat→List Nat→List Nat→Prop}:∀(Gs:List AAU) (o:Nat),(∀(k:Nat) G,Gs[k]? =some G→ ∃F W,G.Perm (F++W)∧R (o+k) G F W)→
  ∃Fs Ws:List AAU,Fs.length=Gs.length∧Ws.length=Gs.length∧Gs.flatten.Perm (Fs.flatten++Ws.flatten)∧
   ∀(k:Nat) G F W,Gs[k]? =some G→Fs[k]? =some F→Ws[k]? =some W→R (o+k) G F W
 |[],o,_=>⟨[],[],rfl,rfl,by simp,by simp⟩
 |G::Gs,o,h=>by
  obtain⟨F,W,hp,hr⟩:=h 0 G rfl;obtain⟨Fs,Ws,h1,h2,h3,h4⟩:=cz Gs (o+1) (fun k G hk=>by
   have:=h (k+1) G (by simpa using hk)
   rwa [show o+1+k=o+(k+1)by omega])
  refine⟨F::Fs,W::Ws,by simp[h1],by simp[h2],?_,fun k G' F' W' hG hF hW=> ?_⟩
  ·simp only[AI2]
   refine(hp.append h3).trans ?_
   rw[AGq,AGq];refine AIZ _ ?_
   rw[←AGq,←AGq];exact AIS _ AIa
  ·cases k with
   |zero=>simp at hG hF hW;subst hG hF hW;exact hr
   |succ k=>
    have:=h4 k G' F' W' (by simpa using hG) (by simpa using hF) (by simpa using hW)
    rwa [show o+1+k=o+(k+1)by omega]at this
def LB(E:Env)(w:World)(vw:List Bx)(G5:Nat→Nat):(l:List (Nat×XP))→Eg.V l→List Value→Prop
 |[],_,_=>True
 |(i,p)::l,x,vals=>(∃v,vals[i]? =some v∧XR E w vw (p.mk G5 x.1) v)∧LB E w vw G5 l x.2 vals
section
variable{E E1:Env} {w:World} {bx bk ky:List Bx} {Fk:List AAU} {m:K5}
theorem Mo.map{f:Nat→Nat}(h:∀(i b:Nat),m[i]? =some (some b)→E1.Fc i=E.Fc b):∀{is bs:AAU},Mo m is bs→
  (is.map fun b=>Value.pointer (some ⟨E1.Fc b,0,none⟩))=bs.map fun b=>Value.pointer (some ⟨E.Fc b,0,none⟩)
 |[],[],_=>rfl
 |i::is,b::bs,k=>by simp[h i b k.1,Mo.map (f:=f) h k.2]
theorem Mo.lt:∀{is bs:AAU},Mo m is bs→ ∀i∈is,i<m.length
 |[],[],_,_,h=>by simp at h
 |i::is,b::bs,k,j,h=>by
  rcases AIU.1 h with rfl|h
  ·exact(AF9.1 k.1).1
  ·exact Mo.lt k.2 j h
structure rb (N:Nat) (E:Env) (w:World) (bx bk:List Bx) (Fk:List AAU) (m:K5) (E1:Env) (ky:List Bx):Prop where
 within:DO bk bx
 boxes:JX E w bx bk Fk
 st:∀c,E.S c→E.T c
 T:∀c,eX E Fk c→E1.T c
 S:∀c,E.S c→E1.S c
 ids:∀(i b:Nat),m[i]? =some (some b)→E1.Fc i=E.Fc b∧E1.Fq i=E.Fq b
 len:m.length≤ky.length
 nil:∀(i:Nat) d r rows,ky[i]? =some (.sl d r rows)→E.Fq (N+i)= .slice none 0 0
 sl:∀(i:Nat) d r rows,i<m.length→ky[i]? =some (.sl d r rows)→ ∃b d',m[i]? =some (some b)∧bx[b]? =some (.sl d' r rows)
variable{N:Nat} (k:rb N E w bx bk Fk m E1 ky)
include k
theorem mE{p:AP}{x:AV}{v:Value}(hv:VR E w bx x v)(ha:Md N m p x){y:p.V}(e:p.get bk x=some y):VR E1 w ky (p.mk id y) v:=by
 cases p with
 |v t=>
  simp only[AP.get]at e;split at e
  ·rename_i hs
   have hr:=O2 k.within k.boxes k.st hv e;refine⟨hs,?_⟩;cases t with
   |int _=>simpa only[Rd]using hr
   |bool=>simpa only[Rd]using hr
   |str=>simpa only[Rd]using hr
   |_=>simp[Ty.scalar]at hs
  ·cases e
 |sl s r=>
  cases s with
  |false=>
   simp only[AP.get]at e;have hr:=O2 k.within k.boxes k.st hv e;simp only[AP.mk,VR];exact DT k.T (fun _ _=>rfl) (by simpa using hr)
  |true=>
   simp only[AP.get]at e;split at e
   ·rename_i q z
    obtain⟨e1,e2⟩:=Fh e;subst e1;subst e2;simp only[AP.mk,VR]at hv⊢;exact DT k.S (fun _ _=>rfl) (by simpa using hv)
   ·cases e
    simp only[AP.mk,VR]at hv⊢;subst hv;simp only[Rd];exact⟨none,0,rfl,by simp,.inl rfl⟩
   ·cases e
 |nil=>
  obtain rfl:=ha;exact hv
 |ref i=>
  obtain⟨b,hx,hm⟩:=ha;have hi:=(AF9.1 hm).1;simp only[AP.mk,id,VR];rcases hx with rfl|⟨rfl,rfl⟩
  ·have hsl:=hv.1
   refine⟨hsl,?_⟩;cases e1:ky[i]? with
   |none=>simp at e1;have:=k.len;omega
   |some B=>
    cases B with
    |sl d r rows=>
     obtain⟨b',d',h1,h2⟩:=k.sl i d r rows hi e1;rw[hm]at h1;cases h1;simp only[VR,h2]at hv
     replace hv:=hv.2
     refine⟨by simp[CJ],⟨_,rfl⟩,?_⟩;rw[(k.ids i b hm).2];exact hv.2.2
    |_=>trivial
  ·have VD:v= .slice none 0 0:=hv
   subst VD;refine⟨rfl,?_⟩;cases e1:ky[i]? with
   |none=>simp at e1;have:=k.len;omega
   |some B=>
    cases B with
    |sl d r rows=>
     refine⟨by simp[CJ],⟨_,rfl⟩,?_⟩;rw[(k.ids i _ hm).2,k.nil i d r rows e1,B5]
    |_=>trivial
 |ptr i j=>
  obtain⟨b,rfl,hm⟩:=ha;have hi:=(AF9.1 hm).1;exact⟨AIm hi k.len,by rw[hv.2,id,(k.ids i b hm).1]⟩
 |fi r=>
  simp only[AP.get]at e;split at e
  ·rename_i s q z
   obtain⟨e1,e2⟩:=Fh e;subst e1;subst e2;simp only[AP.mk,VR]at hv⊢;obtain⟨bb,o,cs,h1,h2,h3,h4,h5⟩:=hv;have q7:∀c,(if s=true then E.S else E.T) c→E1.T c:=by
    intro c hc;cases s
    ·exact k.T c (.inl (by simpa using hc))
    ·exact k.T c (.inl (k.st c (by simpa using hc)))
   exact⟨bb,o,cs,h1,by simpa using q7 bb h2,h3,h4,by simpa using DT q7 (fun _ _=>rfl) h5⟩
  ·rename_i b
   split at e
   ·rename_i cs hb
    obtain⟨F,⟨hF,arr,ty,fr,ha,hu,RH⟩,W_⟩:=k.boxes.get hb;have Ro:=XS k.within k.boxes k.st RH e;simp only[AP.mk,VR];refine⟨E.Fc b,0,arr.toList,by simpa using hv.2,?_,Zo Ro,?_,by simpa using DT k.T (fun _ _=>rfl) Ro⟩
    ·simp only[AHU,AIk]
     exact k.T _ (.inr (W_ _ (by rw[hF];simp)))
    ·intro j u hj
     simp only[AJv,World.cell?,ha,AKK,AHU,AIk];simpa using hj
   ·cases e
  ·rename_i b p i sz
   split at e
   ·rename_i d q rows hb
    simp only[AGs]at e;obtain⟨⟨q',ys⟩,e1,e2⟩:=e;split at e2
    case isFalse=>cases e2
    rename_i LW;obtain⟨e3,e4⟩:=Fh e2;dsimp only at e3;subst e3;subst e4;simp only[VR,Sl k.within hb]at hv;obtain⟨_,hp,q1,ys1,bb,o,len,cap,hg,hi,hh,rfl⟩:=hv;rw[hg]at e1;simp only[AGL,AIM]at e1;obtain⟨e5,e6⟩:=e1;subst e5;obtain rfl:=AIe e6;have Ro:=VW k.within k.boxes k.st hb hp hg hh;simp only[Rd]at Ro;obtain⟨a',cap',ee,_,Ro⟩:=Ro;simp only[AId,Value.slice.injEq,AJo]at ee;obtain⟨rfl,rfl,rfl⟩:=ee;rcases Ro with Ro|⟨b1,o1,e7,hb1,Ro⟩
    ·omega
    ·cases e7
     obtain⟨cs,c1,c2,c3⟩:=Ro i _ (L5 hi);simp only[AP.mk,VR];refine⟨bb,o+i*q1.n,cs,by rw[LW],by simpa using k.T _ hb1,c1,c2,by simpa using DT k.T (fun _ _=>rfl) c3⟩
   ·cases e
  ·cases e
 |fn f G6=>
  obtain⟨bs,rfl,hc⟩:=ha;refine⟨fun i hi=>AIm (hc.lt i (by simpa[AP.mk]using hi)) k.len,?_⟩;rw[hv.2];simp only[AP.mk,List.map_id];rw[Mo.map (f:=id) (fun i b h=>(k.ids i b h).1) hc]
 |gD f rs=>
  simp only[AP.get]at e;split at e
  ·rename_i g rows
   split at e
   case isFalse=>cases e
   rename_i hfg;subst hfg;obtain⟨ps,U5,UA⟩:=hv;refine⟨ps,U5,?_⟩;clear ha U5
   induction rs generalizing rows ps with
   |nil=>
    cases rows with
    |nil=>
     cases ps with
     |nil=>trivial
     |cons _ _=>exact UA.elim
    |cons _ _=>simp[TU.dh]at e
   |cons r rs ih=>
    cases rows with
    |nil=>simp[TU.dh]at e
    |cons q rows=>
     cases ps with
     |nil=>exact UA.elim
     |cons p ps=>
      simp only[TU.dh,AGs,AGV]at e;obtain⟨x1,e1,x2,e2,rfl⟩:=e;obtain⟨q1,q2⟩:=q;obtain⟨e3,e4⟩:=Fh e1;dsimp only at e3;subst e3;subst e4;obtain⟨⟨bb,o,cs,h1,h2,h3,h4,h5⟩,UA⟩:=UA;exact⟨⟨bb,o,cs,h1,k.T bb (.inl h2),h3,h4,DT (fun b hb=>k.T b (.inl hb)) (fun _ _=>rfl) h5⟩,ih rows e2 ps UA⟩
  ·rename_i g bs
   split at e
   case isFalse=>cases e
   rename_i hfg;subst hfg;obtain⟨U5,UA⟩:=hv;refine⟨bs.map fun b=>Value.pointer (some ⟨E.Fc b,0,none⟩),UA,?_⟩;clear ha U5 UA
   induction rs generalizing bs with
   |nil=>
    cases bs with
    |nil=>trivial
    |cons _ _=>simp[TU.eG]at e
   |cons r rs ih=>
    cases bs with
    |nil=>simp[TU.eG]at e
    |cons b bs=>
     simp only[TU.eG,AGs,AGV]at e;obtain⟨x1,e1,x2,e2,rfl⟩:=e;split at e1
     case h_2=>cases e1
     rename_i cs hb;obtain⟨F,⟨hF,arr,ty,fr,ha,hu,RH⟩,W_⟩:=k.boxes.get hb;have Ro:=XS k.within k.boxes k.st RH e1;refine⟨⟨E.Fc b,0,arr.toList,rfl,k.T _ (.inr (W_ _ (by rw[hF];simp))),Zo Ro,?_,DT k.T (fun _ _=>rfl) Ro⟩,ih bs e2⟩;intro j u hj;simp only[AJv,World.cell?,ha,AKK,AHU,AIk];simpa using hj
  ·cases e
 |any=>trivial
 |Zf i sz=>
  obtain⟨b,q,j,rfl,hm⟩:=ha;have hi:=(AF9.1 hm).1;simp only[AP.get,AGL]at e;subst e;simp only[AP.mk,id,VR];have hsl:=hv.1;refine⟨hsl,?_⟩;cases e1:ky[i]? with
  |none=>simp at e1;have:=k.len;omega
  |some B=>
   cases B with
   |sl d r rows=>
    obtain⟨b',d',h1,h2⟩:=k.sl i d r rows hi e1;rw[hm]at h1;cases h1;simp only[VR,h2]at hv
    replace hv:=hv.2
    refine⟨hv.1,hv.2.1,?_⟩;rw[(k.ids i b hm).2];exact hv.2.2
   |_=>trivial
theorem bt:∀{l:List AP} {xs:List AV} {vs:List Value},YB E w bx xs vs→Bj (Md N m) l xs→ ∀{y:Rn.V l},Rn.get bk l xs=some y→YB E1 w ky (Rn.mk id l y) vs
 |[],[],[],_,_,_,_=>trivial
 |p::l,x::xs,v::vs,hv,ha,y,e=>by
  simp only[Rn.get,AGs,AGV]at e;obtain⟨a,e1,b,e2,rfl⟩:=e;exact⟨mE k hv.1 ha.1 e1,bt hv.2 ha.2 e2⟩
 |[],[],_::_,hv,_,_,_=>hv.elim
 |_::_,_::_,[],hv,_,_,_=>hv.elim
 |[],_::_,_,_,ha,_,_=>ha.elim
 |_::_,[],_,_,ha,_,_=>ha.elim
theorem ic:∀{l:List (AP ⊕ List AP)} {xs:List (AV ⊕ List AV)} {vs:List Value},Bj (TR E w bx) xs vs→Bj (Xj N m) l xs→ ∀{y:R_.V l},R_.get bk l xs=some y→
  Bj (TR E1 w ky) (R_.mk id l y) vs
 |[],[],[],_,_,_,_=>trivial
 | .inl p::l,.inl x::xs,v::vs,hv,ha,y,e=>by
  simp only[R_.get,AGs,AGV]at e;obtain⟨a,e1,b,e2,rfl⟩:=e;exact⟨mE k hv.1 ha.1 e1,ic hv.2 ha.2 e2⟩
 | .inr p::l,.inr x::xs,v::vs,hv,ha,y,e=>by
  simp only[R_.get,AGs,AGV]at e;obtain⟨a,e1,b,e2,rfl⟩:=e;obtain⟨⟨us,hu,hus⟩,h2⟩:=hv;exact⟨⟨us,hu,bt k hus ha.1 e1⟩,ic h2 ha.2 e2⟩
 | .inl _::_,.inr _::_,_,_,ha,_,_=>ha.1.elim
 | .inr _::_,.inl _::_,_,_,ha,_,_=>ha.1.elim
 |[],[],_::_,hv,_,_,_=>hv.elim
 |_::_,_::_,[],hv,_,_,_=>hv.elim
 |[],_::_,_,_,ha,_,_=>ha.elim
 |_::_,[],_,_,ha,_,_=>ha.elim
theorem AC6{p:XP}{x:XV}{v:Value}(hv:XR E w bx x v)(ha:Uh N m p x){y:p.V}(e:p.get bk x=some y):XR E1 w ky (p.mk id y) v:=by
 cases p with
 |c p=>cases x with
  |c x=>exact mE k hv ha (by simpa only[XP.get]using e)
  |_=>exact ha.elim
 |agg l=>cases x with
  |agg xs=>
   obtain⟨vs,rfl,RH⟩:=hv;exact⟨vs,rfl,bt k RH ha (by simpa only[XP.get]using e)⟩
  |_=>exact ha.elim
 |row r=>cases x with
  |agg xs=>
   obtain⟨vs,rfl,RH⟩:=hv;exact⟨vs,rfl,YS k.within k.boxes k.st k.T RH (by simpa only[XP.get]using e)⟩
  |_=>exact ha.elim
 |Jy l=>cases x with
  |Jy xs=>
   obtain⟨vs,rfl,RH⟩:=hv;exact⟨vs,rfl,ic k RH ha (by simpa only[XP.get]using e)⟩
  |_=>exact ha.elim
theorem gB{tm:List XV}{vals:List Value}(htm:Bj (XR E w bx) tm vals):∀{l:List (Nat×XP)},(∀q∈l,∃x,tm[q.1]? =some x∧Uh N m q.2 x)→ ∀{y:Eg.V l},Eg.get bk tm l=some y→
  LB E1 w ky id l y vals
 |[],_,_,_=>trivial
 |(i,p)::l,ha,y,e=>by
  obtain⟨x,hx,hax⟩:=ha (i,p) (by simp);simp only[Eg.get,hx,AGs,AGV]at e;obtain⟨a,e1,b,e2,rfl⟩:=e;obtain⟨v,hv,hr⟩:=htm.get hx;exact⟨⟨v,hv,AC6 k hr hax e1⟩,gB htm (fun q hq=>ha q (by simp[hq])) e2⟩
end
structure ij (E:Env) (w:World) (bx:List Bx) (m:K5) (s:Bn) (x:s.V) (vals:List Value) (E1:Env):Prop where
 boxes:CD E1 w (GY.mk id s.Eb x.2) (GY.mk id s.Eb x.2) []
 Cn:LB E1 w (GY.mk id s.Eb x.2) id s.Cn x.1 vals
 ids:∀(i b:Nat),m[i]? =some (some b)→E1.Fc i=E.Fc b∧E1.Fq i=E.Fq b
 inj:dM m
 len:m.length=s.Eb.length
 S:∀c,E.S c→E1.S c
 nJ:∀c,E1.S c→E.S c∨ ¬E.T c
 T:∀c,E.T c→E1.T c
 rest:∃Fk,JX E w bx (B7 bx m) Fk∧Fk.flatten.Nodup∧(∀c∈Fk.flatten,¬E.T c∧ ¬E1.S c∧c<w.heap.size∧E1.T c)∧(∀c,E1.T c→E.T c∨E1.S c∨c∈Fk.flatten)
theorem Z9{E:Env}{w:World}{bx:List Bx}{tm:List XV}{vals:List Value}(hB:CD E w bx bx [])(htm:Bj (XR E w bx) tm vals){s:Bn}{m0 m:K5}{x:s.V}
  {N:Nat} (iU:∀(i:Nat) d r,s.Eb[i]? =some (.sl d r)→E.Fq (N+i)= .slice none 0 0) (hlen:m0.length=s.Eb.length) (zy:dM m0) (e:s.fit N m0 tm bx=some (x,m)):Ext m0 m∧ ∃E1,ij E w bx m s x vals E1:=by
 simp only[Bn.fit,AGs,AGV]at e;obtain⟨m1,e1,m2,e2,a,e3,c,e4,e5⟩:=e;cases e5;obtain⟨a1,a2,a3⟩:=V8 e1;obtain⟨b1,b2,b4,b3⟩:=QY e2;have hi:dM m:=b3 (a3 zy);have pg:m.length=s.Eb.length:=by rw[b1.1,a1.1,hlen]
 refine⟨a1.trans b1,?_⟩;obtain⟨Gs,g1,g2,g3⟩:=bm hi hB;obtain⟨q1,q2⟩:=Mi (G5:=id) e4;have st:=hB.st
 let R:Nat→List Nat→List Nat→List Nat→Prop:=fun k G F W=>
  match s.Eb[k]? with
  |some (.sl d r)=> ∀(b d':Nat) (rows:List r.D),m[k]? =some (some b)→bx[b]? =some (.sl d' r rows)→Ow w (fun c=>E.S c∨c∈W) d (.sl r) [E.Fq b] rows F
  |some (.mem q)=>F=G∧W=[]
  |_=>F=[]∧W=G
 have ABT:∀(k:Nat) G,Gs[k]? =some G→ ∃F W,G.Perm (F++W)∧R (0+k) G F W:=by
  intro k G hG;rw[AJv];have hk:k<s.Eb.length:=by
   have:=(AF9.1 hG).1;omega
  have hp:s.Eb[k]? =some s.Eb[k]:=AGI hk;cases hb:s.Eb[k]with
  |mem q=>exact⟨G,[],by simp,by simp[R,hp,hb]⟩
  |gone=>exact⟨[],G,by simp,by simp[R,hp,hb]⟩
  |sl d r=>
   obtain⟨y,y1,b,d',y2,y3,y4,y5⟩:=q2 k _ (hp.trans (by rw[hb]));obtain⟨_,ho⟩:=g2 k b _ G y2 y3 hG;obtain⟨F,W,w1,w2⟩:=HJ y5 ho;refine⟨F,W,w1,?_⟩;simp only[R,hp,hb];intro b' d'' rows h1 h2;rw[y2]at h1;cases h1;rw[y3]at h2;cases h2;exact w2
 obtain⟨Fs,Ws,f1,f2,f3,f4⟩:=cz Gs 0 ABT;obtain⟨Fk,k1,k2⟩:=g3;simp only[AH7]at k2;have bo:Sep E w (Fk.flatten++(Fs.flatten++Ws.flatten)):=k2.perm (AIZ _ f3)
 let E1:Env:={
   Fc:=fun i=>match m[i]? with|some (some b)=>E.Fc b|_=>0
   Fq:=fun i=>match m[i]? with|some (some b)=>E.Fq b|_=> .nilFunc
   S:=fun c=>E.S c∨c∈Ws.flatten
   T:=fun c=>E.T c∨c∈Ws.flatten∨c∈Fk.flatten }
 have ke:∀(i b:Nat),m[i]? =some (some b)→E1.Fc i=E.Fc b∧E1.Fq i=E.Fq b:=fun i b h=>by simp[E1,h]
 have fe:rb N E w bx (B7 bx m) Fk m E1 (GY.mk id s.Eb c):={
  within:=M5 (DO.refl bx)
  boxes:=k1
  st:=st
  T:=fun d hd=>hd.elim .inl fun h=> .inr (.inr h)
  S:=fun d hd=> .inl hd
  ids:=ke
  len:=by rw[q1,pg];exact AIi _
  nil:=fun i d r rows e=>by
   have hk:i<s.Eb.length:=by
    have:=(AF9.1 e).1
    rwa [q1]at this
   obtain⟨y,y1,_⟩:=q2 i _ (AGI hk);have hp:=AGI hk;rw[e]at y1
   generalize s.Eb[i]=P at y y1 hp
   cases P with
   |mem q=>cases y1
   |gone=>cases y1
   |sl d0 r0=>exact iU i d0 r0 hp
  sl:=fun i d r rows hi e=>by
   have hk:i<s.Eb.length:=by omega
   obtain⟨y,y1,y2⟩:=q2 i _ (AGI hk);rw[e]at y1
   generalize s.Eb[i]=P at y y1 y2
   cases P with
   |mem q=>cases y1
   |gone=>cases y1
   |sl d0 r0=>
    simp only[BP.mk,AGL,Bx.sl.injEq]at y1;obtain⟨rfl,rfl,y1⟩:=y1;obtain rfl:=AIe y1;obtain⟨b,d',z1,z2,_⟩:=y2;exact⟨b,d',z1,z2⟩ }
 have nd:=bo.nodup;have rU:∀c∈Fs.flatten,¬E1.T c:=by
  intro d hd h;rcases h with h|h|h
  ·exact bo.free d (by simp[hd]) h
  ·have:=(AHW.1 (AHW.1 nd).2.1).2.2 d hd d h
   exact this rfl
  ·have:=(AHW.1 nd).2.2 d h d (by simp[hd])
   exact this rfl
 have AB8:LB E1 w (GY.mk id s.Eb c) id s.Cn a vals:=gB fe htm (fun q hq=>let⟨x,h1,h2⟩:=a2 q hq;⟨x,h1,Uh.ext b1 h2⟩) e3;refine⟨E1,ij.mk ?_ AB8 ke hi pg (fun d hd=> .inl hd) ?_ (fun d hd=> .inl hd) ⟨Fk,k1,(AHW.1 nd).1,fun d hd=>⟨bo.free d (by simp[hd]),?_,bo.lt d (by simp[hd]),.inr (.inr hd)⟩,?_⟩⟩
 ·refine⟨Fs,⟨by rw[f1,g1,q1,pg],fun k B F hk hF=> ?_⟩,?_⟩
  ·have hkl:k<s.Eb.length:=by
    have hk1:=(AF9.1 hk).1;rw[←q1];exact hk1
   have hp:s.Eb[k]? =some s.Eb[k]:=AGI hkl;obtain⟨y,y1,y2⟩:=q2 k _ hp;rw[hk]at y1;cases y1;have hG:Gs[k]? =some (Gs[k]'(by omega)):=AGI _;have hW:Ws[k]? =some (Ws[k]'(by omega)):=AGI _;have hr:=f4 k _ F _ hG hF hW;rw[AJv]at hr;have AFo:∀d∈Ws[k]'(by omega),d∈Ws.flatten:=fun d hd=>AIb.2 ⟨_,AH9 hW,hd⟩
   generalize AMF:s.Eb[k]=P at y y2 hp
   have AGl:=fun q=>b2 k q
   simp only[R,hp]at hr;cases P with
   |mem q=>
    obtain⟨b,cs,z1,z2,z3⟩:=y2;obtain⟨rfl,hW0⟩:=hr;obtain⟨hFe,arr,ty,fr,h1,h2,h3⟩:=g2 k b _ _ z1 z2 hG;obtain⟨b',VB,t1,t2,t3⟩:=AGl q hp;rw[AJv,z1]at t1;cases t1;rw[z2]at t2;cases t2;refine⟨by rw[hFe,(ke k b z1).1],arr,ty,fr,by rw[(ke k b z1).1];exact h1,h2,bt fe h3 t3 z3⟩
   |sl d r=>
    obtain⟨b,d',z1,z2,z3,z4⟩:=y2;have:=hr b d' y z1 z2;refine⟨z3,?_⟩;rw[(ke k b z1).2];exact Cq (fun d hd=>hd.elim .inl fun h=> .inr (AFo d h)) (fun _ _=>rfl) (fun _ _=>rfl) this
   |gone=>exact hr.1
  ·simp only[AH7]
   refine⟨(AHW.1 (AHW.1 nd).2.1).1,rU,fun d hd=>bo.lt d (by simp[hd]),fun d hd=>hd.elim (fun h=> .inl (st d h)) (fun h=> .inr (.inl h)),fun d hd=> ?_⟩;rcases hd with hd|hd|hd
   ·exact bo.W0 d hd
   ·exact bo.lt d (by simp[hd])
   ·exact bo.lt d (by simp[hd])
 ·intro d hd
  exact hd.elim .inl fun h=> .inr (bo.free d (by simp[h]))
 ·intro h
  rcases h with h|h
  ·exact bo.free d (by simp[hd]) (st d h)
  ·have:=(AHW.1 nd).2.2 d hd d (by simp[h])
   exact this rfl
 ·intro d hd
  rcases hd with hd|hd|hd
  ·exact .inl hd
  ·exact .inr (.inl (.inr hd))
  ·exact .inr (.inr hd)
end Go.Fw
end
section
namespace Go.Fw
def zv:Ty→Value
 | .int k=> .int k 0
 | .bool=> .bool false
 | .str=> .string ⟨#[]⟩
 |_=> .slice none 0 0
def EA:Ty→List Value
 | .cons c r=>zv c::EA r
 | .unit=>[]
 |t=>[zv t]
def Ty.cell:Ty→Bool
 | .unit| .cons _ _=>false
 |_=>true
def Ty.iI:Ty→Bool
 | .cons c r=>c.cell&&r.iI
 |_=>true
def eqZ:Value→Value→Bool
 | .int k n,.int k' n' =>decide (k=k')&&decide (n=n')
 | .bool a,.bool b=>decide (a=b)
 | .string a,.string b=>decide (a.data.toList=[])&&decide (b.data.toList=[])
 | .slice none a b,.slice none c d=>decide (a=c)&&decide (b=d)
 |_,_=>false
theorem ADG{a b:Value}(h:eqZ a b=true):a=b:=by
 unfold eqZ at h;split at h
 ·simp at h;rw[h.1,h.2]
 ·simp at h;rw[h]
 ·rename_i a b
  simp at h;obtain⟨h1,h2⟩:=h;cases a;cases b;simp at h1 h2;subst h1 h2;rfl
 ·simp at h;rw[h.1,h.2]
 ·cases h
def ng:List Value→List Value→Bool
 |[],[]=>true
 |a::l,b::m=>eqZ a b&&ng l m
 |_,_=>false
theorem mr:∀{l m:List Value},ng l m=true→l=m
 |[],[],_=>rfl
 |a::l,b::m,h=>by
  simp only[ng,AGx]at h;rw[ADG h.1,mr h.2]
 |[],_::_,h=>by simp[ng]at h
 |_::_,[],h=>by simp[ng]at h
def Xb(P:Program)(t:Nat):TD→Prop
 | .int k=>P.underlying t=some (.int k)
 | .bool=>P.underlying t=some .bool
 | .str=>P.underlying t=some .string
 | .sl e=>P.underlying t=some (.slice e)
 | .ptr e=>P.underlying t=some (.pointer e)
 | .st fs=> ∃fields,P.underlying t=some (.struct fields)∧fields.toList.map (fun f=>(f.offset,f.type))=fs∧(∀f∈fields.toList,f.name≠ "_" ∧ ∃i,P.info? f.type=some i∧i.size≠0)∧
  P.stoodInHeld t=false∧P.eqGuardType P.depth t=false
 | .other=> ∃d,P.underlying t=some d∧d.isRow=false
structure AG1 (P:Program) (T:HE) (t:Nat) (ti:TI):Prop where
 info:∃i,P.info? t=some i∧i.size=ti.size∧i.bytes=ti.bytes∧(∀r,ti.row=some r→r.iI=true∧ ∃z,i.zero=some z∧z.cells.toList=EA r)
 qH:Xb P t ti.desc
def DY(P:Program)(T:HE):Prop:= ∀t ti,T.get t=some ti→AG1 P T t ti
def iv(P:Program)(T:HE)(t:Nat)(ti:TI):Bool:=
 (match P.info? t with
  |some i=>decide (i.size=ti.size)&&decide (i.bytes=ti.bytes)&&(match ti.row with
   |some r=>r.iI&&(match i.zero with
    |some z=>ng z.cells.toList (EA r)
    |none=>false)
   |none=>true)
  |none=>false)&&
 (match ti.desc,P.underlying t with
  | .int k,some (.int k')=>decide (k=k')
  | .bool,some .bool=>true
  | .str,some .string=>true
  | .sl e,some (.slice e')=>decide (e=e')
  | .ptr e,some (.pointer e')=>decide (e=e')
  | .st fs,some (.struct fields)=>decide (fields.toList.map (fun f=>(f.offset,f.type))=fs)&&
    fields.toList.all (fun f=>decide (f.name≠ "_")&&(match P.info? f.type with|some i=>decide (i.size≠0)|none=>false))&&
    !P.stoodInHeld t&& !P.eqGuardType P.depth t
  | .other,some d=> !d.isRow
  |_,_=>false)
theorem iQ{P:Program}{T:HE}{t:Nat}{ti:TI}(h:iv P T t ti=true):AG1 P T t ti:=by
 unfold iv at h;rw[AGx]at h;obtain⟨h1,h2⟩:=h;constructor
 ·split at h1
  ·rename_i i hi
   simp only[AGx,AG7]at h1;refine⟨i,hi,h1.1.1,h1.1.2,fun r hr=> ?_⟩;obtain⟨_,h3⟩:=h1;rw[hr]at h3;dsimp only at h3;rw[AGx]at h3;obtain⟨hg,h3⟩:=h3;refine⟨hg,?_⟩;split at h3
   ·rename_i z hz
    exact⟨z,hz,mr h3⟩
   ·cases h3
  ·cases h1
 ·split at h2
  ·rename_i hd hu;simp only[hd,Xb];simp at h2;rw[hu,h2]
  ·rename_i hd hu;simp only[hd,Xb];exact hu
  ·rename_i hd hu;simp only[hd,Xb];exact hu
  ·rename_i hd hu;simp only[hd,Xb];simp at h2;rw[hu,h2]
  ·rename_i hd hu;simp only[hd,Xb];simp at h2;rw[hu,h2]
  ·rename_i fs fields hd hu
   simp only[hd,Xb];simp only[AGx,AG7,AI7,AKP]at h2;refine⟨fields,hu,h2.1.1.1,fun f hf=> ?_,h2.1.2,h2.2⟩;have:=h2.1.1.2 f hf;refine⟨this.1,?_⟩;have h4:=this.2;split at h4
   ·rename_i i hi
    exact⟨i,hi,by simpa using h4⟩
   ·cases h4
  ·rename_i d hd hu;simp only[hd,Xb]
   exact⟨d,hu,by simpa using h2⟩
  ·cases h2
def qg(P:Program)(T:HE):Bool:=T.all fun q=>iv P T q.1 q.2
theorem HE.get_mem:∀{T:HE} {t:Nat} {ti:TI},T.get t=some ti→(t,ti)∈T
 |(u,i)::l,t,ti,h=>by
  simp only[HE.get]at h;split at h
  ·rename_i e;cases h;subst e;simp
  ·exact AK8 _ (HE.get_mem h)
 |[],_,_,h=>by simp[HE.get]at h
theorem cH{P:Program}{T:HE}(h:qg P T=true):DY P T:=fun t ti e=>
 iQ (by simpa using AI7.1 h (t,ti) (HE.get_mem e))
section
variable{P:Program} {T:HE} (hT:DY P T)
include hT
theorem DY.size{t:Nat}{ti:TI}(e:T.get t=some ti):(P.info? t).map (·.size)=some ti.size:=by
 obtain⟨i,h1,h2,_⟩:=(hT t ti e).info;simp[h1,h2]
theorem DY.sizeOf{t:Nat}{ti:TI}(e:T.get t=some ti)(w:World):(Go.sizeOf t).run P w= .ok ti.size w:=by
 obtain⟨i,h1,h2,_⟩:=(hT t ti e).info;simp[Go.sizeOf,typeInfo,h1,h2]
omit hT in
theorem Aw{t:Nat}{d:TypeDesc}(h:P.underlying t=some d)(w:World):(Go.underlying t).run P w= .ok d w:=by
 simp[Go.underlying,h]
theorem DY.isAgg{t:Nat}{ti:TI}(e:T.get t=some ti)(w:World):(Go.isAgg t).run P w= .ok ti.desc.agg w:=by
 have hu:=(hT t ti e).qH;unfold Go.isAgg;cases hd:ti.desc<;>rw[hd]at hu<;>simp only[Xb]at hu
 case st fs=>
  obtain⟨fields,hu,_⟩:=hu;simp[Aw hu,TD.agg]
 case other=>
  obtain⟨d,hu,hd⟩:=hu;rw[Sem.run_bind,Aw hu];cases d<;>simp_all[TypeDesc.isRow,TD.agg]
 all_goals simp[Aw hu,TD.agg]
end
end Go.Fw
end
section
namespace Go.Fw
def IF{Y:Type}(P:Program)(o:Oper)(E:Env)(σ:St)(a:Act)(w:World)(k:K Y)(y:Y):Prop:=
 ∃v w' E' x σ',((execOp a.eval o).run P w= .ok (.value v) w'∨((execOp a.eval o).run P w= .ok .skip w'∧v=undef))∧Rel E' σ' a w'∧XR E' w' σ'.bx x v∧MV (GA (fun _=>none) σ o.op) E σ.bx w E' σ'.bx w'∧
  σ'.tm.length=σ.tm.length∧k x σ' =some y
section
variable{Y:Type} {P:Program} {T:HE} {o:Oper} {E:Env} {σ:St} {a:Act} {w:World} {k:K Y} {y:Y}
theorem IF.same(h:Rel E σ a w){v:Value}{x:XV}(hr:(execOp a.eval o).run P w= .ok (.value v) w)(hx:XR E w σ.bx x v)(hk:k x σ=some y):IF P o E σ a w k y:=
 ⟨v,w,E,x,σ,.inl hr,h,hx,MV.refl _ E σ.bx w,rfl,hk⟩
theorem UY{vw:List Bx}{κ:IntKind}{n:Int}{v:Value}(h:VR E w vw (.v (.int κ) n) v):v= .int κ n:=by
 have:=h.2;simpa[Rd]using this
theorem Mb{vw:List Bx}{b:Bool}{v:Value}(h:VR E w vw (.v .bool b) v):v= .bool b:=by
 have:=h.2;simpa[Rd]using this
theorem RS{vw:List Bx}{s:AAg}{v:Value}(h:VR E w vw (.v .str s) v):v= .string ⟨s.toArray⟩:=by
 have:=h.2;simpa[Rd]using this
theorem VR.int{vw:List Bx}(κ:IntKind)(n:Int):VR E w vw (.v (.int κ) n) (.int κ n):=⟨rfl,by simp[Rd]⟩
theorem VR.bool{vw:List Bx}(b:Bool):VR E w vw (.v .bool b) (.bool b):=⟨rfl,by simp[Rd]⟩
theorem VR.str{vw:List Bx}(s:AAg):VR E w vw (.v .str s) (.string ⟨s.toArray⟩):=⟨rfl,by simp[Rd]⟩
theorem QV(s:AAg):ByteArray.toList ⟨s.toArray⟩=s:=by
 have:∀(n i:Nat) (r:AAg),n=s.length-i→ByteArray.toList.loop ⟨s.toArray⟩ i r=r.reverse++s.drop i:=by
  intro n
  induction n with
  |zero=>
   intro i r hn;unfold ByteArray.toList.loop;rw[AGU (by simp[ByteArray.size];omega),List.drop_of_length_le (by omega)];simp
  |succ n ih=>
   intro i r hn;unfold ByteArray.toList.loop;have hi:i<s.length:=by omega
   rw[AGH (by simpa[ByteArray.size]using hi),ih (i+1) _ (by omega)];have:(⟨s.toArray⟩:ByteArray).get! i=s[i]:=by
    simp[ByteArray.get!,hi]
   rw[this,List.drop_eq_getElem_cons hi];simp
 unfold ByteArray.toList;rw[this _ 0 [] rfl];simp
theorem im(a b:AAg):(⟨a.toArray⟩:ByteArray)++⟨b.toArray⟩=⟨(a++b).toArray⟩:=by
 apply ByteArray.ext;simp
theorem jT(op:BinOp)(t:TypeId)(x y:Operand)(u v:Value)(hu:∀l,u≠ .agg l)(hn:u≠ .nilIface)(w:World):(eqGuard op t x y u v).run P w= .ok () w:=by
 unfold eqGuard;by_cases h:(op matches .eql| .neq)=true
 ·cases u<;>first
   |(exfalso;exact hn rfl)
   |(exfalso;exact hu _ rfl)
   |(cases v<;>simp[h])
 ·simp[h]
  exact fun hh=>absurd hh h
theorem kg{op:BinOp}{κ:IntKind}{m n:Int}{k:AV→Option Y}{y:Y}(e:Wy op κ m n k=some y)(t:TypeId)(w:World):
  ∃z v,k z=some y∧(binOp op t (.int κ m) (.int κ n)).run P w= .ok v w∧ ∀E vw,VR E w vw z v:=by
 cases op with
 |add=>exact⟨_,.int κ (κ.wrap (m+n)),e,by simp[binOp,Op.intArith],fun _ _=>VR.int _ _⟩
 |sub=>exact⟨_,.int κ (κ.wrap (m-n)),e,by simp[binOp,Op.intArith],fun _ _=>VR.int _ _⟩
 |mul=>exact⟨_,.int κ (κ.wrap (m*n)),e,by simp[binOp,Op.intArith],fun _ _=>VR.int _ _⟩
 |and=>exact⟨_,.int κ (κ.wrap (BitVec.ofInt κ.bits m &&& BitVec.ofInt κ.bits n).toNat),e,by simp[binOp,Op.intBits],fun _ _=>VR.int _ _⟩
 |or=>exact⟨_,.int κ (κ.wrap (BitVec.ofInt κ.bits m ||| BitVec.ofInt κ.bits n).toNat),e,by simp[binOp,Op.intBits],fun _ _=>VR.int _ _⟩
 |xor=>exact⟨_,.int κ (κ.wrap (BitVec.ofInt κ.bits m ^^^ BitVec.ofInt κ.bits n).toNat),e,by simp[binOp,Op.intBits],fun _ _=>VR.int _ _⟩
 |andNot=>exact⟨_,.int κ (κ.wrap (BitVec.ofInt κ.bits m &&& ~~~BitVec.ofInt κ.bits n).toNat),e,by simp[binOp,Op.intBits],fun _ _=>VR.int _ _⟩
 |eql=>exact⟨_,.bool (m==n),e,by simp[binOp,Op.intCmp],fun _ _=>VR.bool _⟩
 |neq=>exact⟨_,.bool (m !=n),e,by simp[binOp,Op.intCmp],fun _ _=>VR.bool _⟩
 |lss=>exact⟨_,.bool (decide (m<n)),e,by simp[binOp,Op.intCmp],fun _ _=>VR.bool _⟩
 |leq=>exact⟨_,.bool (decide (m≤n)),e,by simp[binOp,Op.intCmp],fun _ _=>VR.bool _⟩
 |gtr=>exact⟨_,.bool (decide (m>n)),e,by simp[binOp,Op.intCmp],fun _ _=>VR.bool _⟩
 |geq=>exact⟨_,.bool (decide (m≥n)),e,by simp[binOp,Op.intCmp],fun _ _=>VR.bool _⟩
 |quo=>
  simp only[Wy]at e;split at e
  ·cases e
  ·rename_i hz
   exact⟨_,.int κ (κ.wrap (m.tdiv n)),e,by simp[binOp,Op.intDiv,hz],fun _ _=>VR.int _ _⟩
 |rem=>
  simp only[Wy]at e;split at e
  ·cases e
  ·rename_i hz
   exact⟨_,.int κ (m.tmod n),e,by simp[binOp,Op.intDiv,hz],fun _ _=>VR.int _ _⟩
 |_=>simp[Wy]at e
theorem Wv{op:BinOp}{κ κ':IntKind}{m n:Int}{k:AV→Option Y}{y:Y}(e:Sk op κ m n k=some y)(t:TypeId)(w:World):
  ∃z v,k z=some y∧(binOp op t (.int κ m) (.int κ' n)).run P w= .ok v w∧ ∀E vw,VR E w vw z v:=by
 unfold Sk at e;split at e
 ·cases e
 ·rename_i hn
  cases op with
  |shl=>exact⟨_,.int κ (κ.wrap (m*2^min n.toNat κ.bits)),e,by simp[binOp,Op.shift,hn],fun _ _=>VR.int _ _⟩
  |shr=>exact⟨_,.int κ (m.fdiv (2^min n.toNat κ.bits)),e,by simp[binOp,Op.shift,hn],fun _ _=>VR.int _ _⟩
  |_=>simp at e
theorem kY{op:BinOp}{s u:AAg}{k:AV→Option Y}{y:Y}(e:Ys op s u k=some y)(t:TypeId)(w:World):
  ∃z v,k z=some y∧(binOp op t (.string ⟨s.toArray⟩) (.string ⟨u.toArray⟩)).run P w= .ok v w∧ ∀E vw,VR E w vw z v:=by
 have h1:=QV s;have h2:=QV u;cases op with
 |eql=>exact⟨_,.bool (s==u),e,by simp[binOp,Op.stringOp,h1,h2],fun _ _=>VR.bool _⟩
 |neq=>exact⟨_,.bool (!(s==u)),e,by simp[binOp,Op.stringOp,h1,h2],fun _ _=>VR.bool _⟩
 |lss=>exact⟨_,.bool (Op.bytesLess s u),e,by simp[binOp,Op.stringOp,h1,h2],fun _ _=>VR.bool _⟩
 |leq=>exact⟨_,.bool (Op.bytesLess s u||s==u),e,by simp[binOp,Op.stringOp,h1,h2],fun _ _=>VR.bool _⟩
 |gtr=>exact⟨_,.bool (!(Op.bytesLess s u||s==u)),e,by simp[binOp,Op.stringOp,h1,h2],fun _ _=>VR.bool _⟩
 |geq=>exact⟨_,.bool (!Op.bytesLess s u),e,by simp[binOp,Op.stringOp,h1,h2],fun _ _=>VR.bool _⟩
 |add=>
  simp only[Ys]at e;split at e
  ·rename_i hl
   refine⟨_,.string ⟨(s++u).toArray⟩,e,?_,fun _ _=>VR.str _⟩;have hs:(⟨s.toArray⟩:ByteArray).size=s.length:=by simp[ByteArray.size]
   have hu:(⟨u.toArray⟩:ByteArray).size=u.length:=by simp[ByteArray.size]
   have ba: ¬(((⟨s.toArray⟩:ByteArray).size+(⟨u.toArray⟩:ByteArray).size:Nat):Int)>IntKind.i64.max:=by
    rw[hs,hu];simp only[DE,IntKind.max,IntKind.signed,IntKind.bits]at hl⊢;simp;omega
   simp only[binOp,Op.stringOp,Sem.run_ite,AGU ba,im];rfl
  ·cases e
 |_=>simp[Ys]at e
theorem iR{d:TD}{x z:AV}{p:Bool}(e:dZ d x z=some p){E:Env}{w:World}{vw:List Bx}{v u:Value}(hx:VR E w vw x v)(hz:VR E w vw z u){t:TypeId}
  (hu:Xb P t d) (n:Nat):(Op.equalIn (n+1) t v u).run P w= .ok p w∧d.agg=false:=by
 unfold dZ at e;split at e
 ·rename_i κ j a k b
  split at e
  ·rename_i hj
   subst hj;cases e;rw[UY hx,UY hz];exact⟨run_equalIn_int (P:=P) w n t j κ a b hu,rfl⟩
  ·cases e
 ·cases e
  rw[Mb hx,Mb hz];exact⟨run_equalIn_bool' (P:=P) w n t _ _ hu,rfl⟩
 ·cases e
  rename_i a b;rw[RS hx,RS hz];have q:=run_equalIn_string (P:=P) w n t ⟨a.toArray⟩ ⟨b.toArray⟩ hu;rw[QV,QV]at q;exact⟨q,rfl⟩
 ·cases e
theorem Ww{T:HE}(hT:DY P T){E:Env}{w:World}{vw:List Bx}{xs ys:Array Value}:∀{fields:List Field} {i:Nat} {l m:List AV} {vs us:List Value} {r:Bool},
  (∀f∈fields,f.name≠ "_")→YB E w vw l vs→YB E w vw m us→Hw T i (fields.map fun f=>(f.offset,f.type)) l m=some r→
  (∀(j:Nat) v,vs[j]? =some v→xs[i+j]? =some v)→(∀(j:Nat) v,us[j]? =some v→ys[i+j]? =some v)→(Op.eqFields 9999 xs ys fields).run P w= .ok r w
 |[],i,[],[],_,_,r,_,_,_,e,_,_=>by
  simp only[ALv,Hw,AGL]at e;subst e;simp[Op.eqFields]
 |f::fs,i,x::l,z::m,v::vs,u::us,r,hn,hx,hz,e,h1,h2=>by
  simp only[ALQ,Hw]at e;split at e
  case isFalse=>cases e
  rename_i ho;have hv:=h1 0 v rfl;have hu:=h2 0 u rfl;simp only[AK1]at hv hu;have AF2:=hn f (by simp);split at e
  case h_2=>cases e
  rename_i ti Mu;split at e
  case h_2=>cases e
  rename_i p hp;simp only[AGV]at e;obtain⟨r',e',rfl⟩:=e;have AKI:=Ww hT (fields:=fs) (i:=i+1) (l:=l) (m:=m) (vs:=vs) (us:=us) (r:=r') (fun f hf=>hn f (by simp[hf])) hx.2 hz.2 e'
   (fun j v' hj=>by have:=h1 (j+1) v' (by simpa using hj);rwa [show i+(j+1)=i+1+j by omega]at this)
   (fun j v' hj=>by have:=h2 (j+1) v' (by simpa using hj);rwa [show i+(j+1)=i+1+j by omega]at this)
  have YW:=(hT f.type ti Mu).qH;obtain⟨q,na⟩:=iR (P:=P) hp hx.1 hz.1 (t:=f.type) YW 9998;have Yi:=DY.isAgg hT Mu w;rw[na]at Yi;have p1:(part f.type xs f.offset).run P w= .ok v w:=by simp[part,Yi,ho,hv]
  have p2:(part f.type ys f.offset).run P w= .ok u w:=by simp[part,Yi,ho,hu]
  simp only[Op.eqFields,AF2,ne_eq,not_false_eq_true,AKA,Sem.run_bind,p1,p2,Result.andThen_ok,q,AKI,Sem.run_ite,Sem.run_pure];cases p<;>simp
 |[],_,_::_,_,_,_,_,_,_,_,e,_,_=>by simp[Hw]at e
 |[],_,[],_::_,_,_,_,_,_,_,e,_,_=>by simp[Hw]at e
 |_::_,_,[],_,_,_,_,_,_,_,e,_,_=>by simp[Hw]at e
 |_::_,_,x::_,[],_,_,_,_,_,_,e,_,_=>by simp[Hw]at e
 |_::_,_,_::_,_::_,[],_,_,_,hx,_,_,_,_=>hx.elim
 |_::_,_,_::_,_::_,_::_,[],_,_,_,hz,_,_,_=>hz.elim
theorem cY(op:BinOp)(t:TypeId)(p q:Bool)(hu:P.underlying t=some .bool)(w:World):(op= .eql→(binOp op t (.bool p) (.bool q)).run P w= .ok (.bool (p==q)) w)∧
  (op= .neq→(binOp op t (.bool p) (.bool q)).run P w= .ok (.bool (!(p==q))) w):=by
 have h:=run_equalIn_bool' (P:=P) w 9999 t p q hu;constructor
 ·rintro rfl
  simp only[binOp,Op.equal,Op.maxDepth,Sem.run_bind,h,Result.andThen_ok,Sem.run_pure]
 ·rintro rfl
  simp only[binOp,Op.equal,Op.maxDepth,Sem.run_bind,h,Result.andThen_ok,Sem.run_pure]
theorem Xh{T:HE}(hT:DY P T){t:Nat}{op:BinOp}{x z:XV}{k:AV→Option Y}{y:Y}(e:ja T t op x z k=some y){E:Env}{w:World}{vw:List Bx}{v u:Value}
  (hx:XR E w vw x v) (hz:XR E w vw z u) (ox oz:Operand):
  ∃r val,k r=some y∧(do eqGuard op t ox oz v u;binOp op t v u:Sem Value).run P w= .ok val w∧VR E w vw r val:=by
 have guard:∀(v u:Value),(∀l,v≠ .agg l)→v≠ .nilIface→ ∀val,(binOp op t v u).run P w= .ok val w→(do eqGuard op t ox oz v u;binOp op t v u:Sem Value).run P w= .ok val w:=by
  intro v u h1 h2 val h;rw[Sem.run_bind,jT op t ox oz v u h1 h2 w,Result.andThen_ok,h]
 unfold ja at e;split at e
 ·rename_i j m j' n
  have hv:=UY (E:=E) (vw:=vw) hx;have hu:=UY (E:=E) (vw:=vw) hz;subst hv hu;have done:∀(q:∃r val,k r=some y∧(binOp op t (.int j m) (.int j' n)).run P w= .ok val w∧ ∀E vw,VR E w vw r val),∃r val,k r=some y∧(do eqGuard op t ox oz (.int j m) (.int j' n);binOp op t (.int j m) (.int j' n):Sem Value).run P w= .ok val w∧VR E w vw r val:=by
   rintro⟨r,val,h1,h2,h3⟩
   exact⟨r,val,h1,guard _ _ (by simp) (by simp) _ h2,h3 _ _⟩
  split at e
  ·exact done (Wv e t w)
  ·exact done (Wv e t w)
  ·split at e
   ·rename_i hj
    subst hj;exact done (kg e t w)
   ·cases e
 ·rename_i s s'
  have hv:=RS (E:=E) (vw:=vw) hx;have hu:=RS (E:=E) (vw:=vw) hz;subst hv hu;obtain⟨r,val,h1,h2,h3⟩:=kY (P:=P) e t w;exact⟨r,val,h1,guard _ _ (by simp) (by simp) _ h2,h3 _ _⟩
 ·rename_i p q
  have hv:=Mb (E:=E) (vw:=vw) hx;have hu:=Mb (E:=E) (vw:=vw) hz;subst hv hu;split at e
  ·rename_i ti Mu
   have YW:=(hT t ti Mu).qH;split at e
   ·rename_i hd
    rw[hd]at YW;split at e
    ·exact⟨_,_,e,guard _ _ (by simp) (by simp) _ ((cY _ t p q YW w).1 rfl),VR.bool _⟩
    ·exact⟨_,_,e,guard _ _ (by simp) (by simp) _ ((cY _ t p q YW w).2 rfl),VR.bool _⟩
    ·cases e
   ·cases e
  ·cases e
 ·rename_i l m
  obtain⟨vs,rfl,RH⟩:=hx;obtain⟨us,rfl,hus⟩:=hz;have key:∀r,((T.fields t).bind fun fs=>Hw T 0 fs l m)=some r→(Op.equalIn 10000 t (.agg vs) (.agg us)).run P w= .ok r w∧P.eqGuardType P.depth t=false:=by
   intro r hr;simp only[AGs]at hr;obtain⟨fs,hf,hr⟩:=hr;unfold HE.fields at hf;split at hf
   ·rename_i fs' hd
    cases hf;simp only[AGV]at hd;obtain⟨ti,Mu,hd⟩:=hd;have YW:=(hT t ti Mu).qH;rw[hd]at YW;obtain⟨fields,hu,hfs,hnm,lM,hg⟩:=YW;have hfo:P.fieldsOf t=fields:=by simp[Program.fieldsOf,hu]
    have q:=run_equalIn_agg (P:=P) w 9999 t vs us (by rw[hfo];exact hu) lM;rw[hfo]at q;refine⟨q.trans ?_,hg⟩;subst hfs;exact Ww hT (fun f hf=>(hnm f hf).1) RH hus hr (fun j v hj=>by simpa using hj) (fun j v hj=>by simpa using hj)
   ·cases hf
  split at e
  ·rename_i r hr
   obtain⟨q,hg⟩:=key r hr;refine⟨_,_,e,?_,VR.bool r⟩;rw[Sem.run_bind,run_eqGuard_agg (P:=P) w _ t ox oz vs us hg,Result.andThen_ok,run_eql_struct (P:=P) w t vs us,q];rfl
  ·rename_i r hr
   obtain⟨q,hg⟩:=key r hr;refine⟨_,_,e,?_,VR.bool (!r)⟩;rw[Sem.run_bind,run_eqGuard_agg (P:=P) w _ t ox oz vs us hg,Result.andThen_ok,run_neq_struct (P:=P) w t vs us,q];rfl
  ·cases e
 ·cases e
end
end Go.Fw
end
section
namespace Go.Fw
section
variable{Y:Type} {P:Program} {T:HE} (hT:DY P T) {E:Env} {w:World} {vw:List Bx}
include hT
theorem uB{t:Nat}{s b:Nat}{fs:List ABD}{rw:Option Ty}(e:T.get t=some ⟨s,b,.st fs,rw⟩):∃fields,P.underlying t=some (.struct fields)∧fields.toList.map (fun f=>(f.offset,f.type))=fs∧
  ∀f∈fields.toList,∃i,P.info? f.type=some i∧i.size≠0:=by
 obtain⟨fields,h1,h2,h3,_⟩:=(hT t _ e).qH;exact⟨fields,h1,h2,fun f hf=>(h3 f hf).2⟩
omit hT in
theorem dG{a:Addr}{f:Field}(h:∃i,P.info? f.type=some i∧i.size≠0):(fieldPlace a f).run P w= .ok (a.add f.offset) w:=by
 obtain⟨i,h1,h2⟩:=h;simp[fieldPlace,Go.sizeOf,typeInfo,h1,h2]
theorem PL{t:Nat}{s b:Nat}{fs:List ABD}{rw:Option Ty}(e:T.get t=some ⟨s,b,.st fs,rw⟩){f o u:Nat}(hf:fs[f]? =some (o,u)){a:Addr}:
  (Instr.fieldAt t (.pointer (some a)) f).run P w= .ok (.pointer (some (a.add o))) w:=by
 obtain⟨fields,h1,h2,h3⟩:=uB hT e;subst h2;simp only[AIg,AGV]at hf;obtain⟨fld,hfl,he⟩:=hf;have hm:=AH9 hfl;have hfa:fields[f]? =some fld:=by simpa using hfl
 simp only[AIh]at he;simp[Instr.fieldAt,Aw h1,hfa,Instr.sureAddr,dG (h3 fld hm),he.1]
theorem Yy{t:Nat}{x z:XV}{f:Nat}(e:g7 T t x f=some z){v:Value}(hx:XR E w vw x v):∃u,(Instr.fieldAt t v f).run P w= .ok u w∧XR E w vw z u:=by
 unfold g7 at e;split at e
 case h_2=>cases e
 rename_i s b fs _ Mu;split at e
 case h_2=>cases e
 rename_i o u hf;split at e
 ·rename_i b' j
  cases e;obtain⟨h1,rfl⟩:=hx;exact⟨_,PL hT Mu hf,h1,by rw[Addr.add_eq]⟩
 ·rename_i b' p i sz j
  cases e;obtain⟨h0,h1⟩:=hx;cases v with
  |pointer oa=>
   cases oa with
   |none=>simp[Uy]at h0
   |some a=>
    obtain⟨ab,ao,sp⟩:=a;cases sp with
    |some _=>simp[Uy]at h0
    |none=>
     refine⟨_,PL hT Mu hf,by rw[Addr.add_eq];rfl,?_⟩;revert h1;split
     ·rintro⟨hp,q,ys,bb,o',len,cap,g1,g2,g3,g4⟩
      refine⟨hp,q,ys,bb,o',len,cap,g1,g2,g3,?_⟩;simp only[Value.pointer.injEq,AGL,Addr.mk.injEq,AJo]at g4;rw[Addr.add_eq,g4.1,g4.2,ALP]
     ·exact fun h=>h
     ·exact fun h=>h
  |_=>simp[Uy]at h0
 ·rename_i s r y j
  cases e;obtain⟨bb,o',cs,rfl,h2,h3,h4,h5⟩:=hx;refine⟨_,PL hT Mu hf,bb,o',cs,?_,h2,h3,h4,h5⟩;rw[Addr.add_eq,ALP]
 ·cases e
theorem aQ{t:Nat}{x z:XV}{f:Nat}(e:qi T t x f=some z){v:Value}(hx:XR E w vw x v):∃u,(Instr.field t v f).run P w= .ok u w∧XR E w vw z u:=by
 unfold qi at e;split at e
 case h_2=>cases e
 rename_i s b fs _ l Mu;obtain⟨vs,rfl,RH⟩:=hx;split at e
 case h_2=>cases e
 rename_i o u hf;split at e
 case h_2=>cases e
 rename_i ti htu;obtain⟨fields,h1,h2,h3⟩:=uB hT Mu;subst h2;simp only[AIg,AGV]at hf;obtain⟨fld,hfl,he⟩:=hf;have hfa:fields[f]? =some fld:=by simpa using hfl
 simp only[AIh]at he;obtain⟨rfl,rfl⟩:=he;have Yi:=DY.isAgg hT htu w;have LW:=DY.sizeOf hT htu w;split at e
 ·rename_i ha
  cases e;rw[ha]at Yi;refine⟨.agg (vs.extract fld.offset (fld.offset+ti.size)),?_,_,rfl,?_⟩
  ·simp[Instr.field,Aw h1,hfa,asAgg,part,Yi,LW]
  ·have:(vs.extract fld.offset (fld.offset+ti.size)).toList=(vs.toList.drop fld.offset).take ti.size:=by
    rw[Array.toList_extract,List.extract_eq_take_drop];simp
   rw[this];exact Bj.take _ (Bj.drop _ RH)
 ·rename_i ha
  simp only[AIY]at ha;rw[ha]at Yi;simp only[AGV]at e;obtain⟨y,hy,rfl⟩:=e;obtain⟨v,hv,hr⟩:=Bj.get RH hy;refine⟨v,?_,hr⟩;have:vs[fld.offset]? =some v:=by simpa using hv
  simp[Instr.field,Aw h1,hfa,asAgg,part,Yi,this]
theorem KM{t:Nat}{r:Ty}(h:T.Mk t r=true):∃e ti,P.underlying t=some (.slice e)∧T.get e=some ti∧ti.size=r.n∧ti.bytes≤512∧ti.row=some r:=by
 unfold HE.Mk at h;split at h
 ·rename_i ti Mu
  simp only[AGx,AG7]at h;unfold HE.elem at Mu;split at Mu
  ·rename_i e hd
   simp only[AGV]at hd;obtain⟨tj,h1,h2⟩:=hd;have:=(hT t tj h1).qH;rw[h2]at this;exact⟨e,ti,this,Mu,h.1.1,h.1.2,h.2⟩
  ·cases Mu
 ·cases h
theorem RP{t:Nat}(h:T.isStr t=true):P.underlying t=some .string:=by
 unfold HE.isStr at h;split at h
 ·rename_i hd
  simp only[AGV]at hd;obtain⟨tj,h1,h2⟩:=hd;have:=(hT t tj h1).qH;rw[h2]at this;exact this
 ·cases h
theorem ZE{t:Nat}(h:T.tC t=true):∃e,P.underlying t=some (.slice e):=by
 unfold HE.tC at h;split at h
 ·rename_i e hd
  simp only[AGV]at hd;obtain⟨tj,h1,h2⟩:=hd;have:=(hT t tj h1).qH;rw[h2]at this;exact⟨e,this⟩
 ·cases h
omit hT in
theorem GB{x:XV}{n:Int}(e:V4 x=some n){v:Value}(hx:XR E w vw x v):∃κ,v= .int κ n:=by
 unfold V4 at e;split at e
 ·cases e;exact⟨_,UY (E:=E) (w:=w) (vw:=vw) hx⟩
 ·cases e
theorem Vk{t:Nat}{r:Ty}(h:T.Mk t r=true){κ:IntKind}{i:Int}{a:Addr}{len cap:Nat}(h0:0≤i)(h1:i<(len:Int)):
  (Instr.indexAt t (.slice (some a) len cap) (.int κ i)).run P w= .ok (.pointer (some (a.add (i.toNat*r.n)))) w:=by
 obtain⟨e,ti,hu,Mu,hs,_⟩:=KM hT h;have LW:=DY.sizeOf hT Mu w;simp[Instr.indexAt,asIntOf,Aw hu,h0,h1,LW,hs]
omit hT in
theorem lX{bx:List Bx}{Fs:List AAU}(hB:JX E w bx bx Fs)(st:∀c,E.S c→E.T c){x:AV}{v:Value}(hv:VR E w bx x v){q:Ty}{ys:List q.D}(e:Ja bx x=some ⟨q,ys⟩):
  ∃a cap,v= .slice a ys.length cap∧ys.length≤cap∧(ys.length=0∨ ∃b o,a=some ⟨b,o,none⟩):=by
 have:=TZ (DO.refl bx) hB st hv e;simp only[Rd]at this;obtain⟨a,cap,h1,h2,h3⟩:=this;simp only[AId,AJo]at h1;exact⟨a,cap,h1,h2,h3.imp id fun⟨b,o,h,_⟩=>⟨b,o,h⟩⟩
theorem YM{σ:St}{Fs:List AAU}(hB:JX E w σ.bx σ.bx Fs)(st:∀c,E.S c→E.T c){t:Nat}{x i:XV}{k:K Y}{y:Y}(e:ZI σ T t x i k=some y){v u:Value}
  (hx:XR E w σ.bx x v) (hi:XR E w σ.bx i u):∃z val,k z σ=some y∧(Instr.indexAt t v u).run P w= .ok val w∧XR E w σ.bx z val:=by
 unfold ZI at e;split at e
 ·rename_i s r rows n hn
  obtain⟨κ,rfl⟩:=GB hn hi;split at e
  case isFalse=>cases e
  rename_i T8;split at e
  case isFalse=>cases e
  rename_i hb;obtain⟨h0,h1⟩:=hb;simp only[XR,VR,Rd]at hx;obtain⟨a,cap,hv,hl,hx⟩:=hx;simp only[AId,AJo]at hv;subst hv;rcases hx with hx|⟨b,o,rfl,hb,hx⟩
  ·omega
  ·have Dl:n.toNat<rows.length:=by omega
   obtain⟨cs,c1,c2,c3⟩:=hx n.toNat _ (L5 Dl);refine⟨_,_,e,Vk hT T8 h0 h1,b,o+n.toNat*r.n,cs,?_,by simpa using hb,c1,c2,by simpa using c3⟩;rw[Addr.add_eq];rfl
 ·rename_i b p n hn
  obtain⟨κ,rfl⟩:=GB hn hi;split at e
  case h_2=>cases e
  rename_i q hq;split at e
  case isFalse=>cases e
  rename_i T8;split at e
  case isFalse=>cases e
  rename_i hb;obtain⟨h0,h1⟩:=hb
  change VR E w σ.bx (.ref b p) v at hx
  obtain⟨a,cap,rfl,hl,ha⟩:=lX hB st hx hq;rcases ha with ha|⟨b',o,rfl⟩
  ·omega
  ·refine⟨_,_,e,Vk hT T8 h0 h1,by rw[Addr.add_eq];rfl,?_⟩
   simp only[Ja]at hq;obtain⟨_,hx⟩:=hx;revert hx;split
   ·rename_i d r rows Yc
    rw[Yc]at hq;dsimp only at hq
    rintro⟨hp,hg,hh⟩
    exact⟨hp,q.1,q.2,b',o,_,cap,hq,by omega,hh,by rw[Addr.add_eq];rfl⟩
   ·rename_i Yc
    intro _
    trivial
   ·exact fun h=>h
 ·rename_i b p off n' n hn
  obtain⟨κ,rfl⟩:=GB hn hi;split at e
  case h_2=>cases e
  rename_i q hq;split at e
  case isFalse=>cases e
  rename_i T8;split at e
  case isFalse=>cases e
  rename_i hb;obtain⟨h0,h1⟩:=hb;simp only[Ja]at hq;obtain⟨h00,hx⟩:=hx;revert hx;split
  ·rename_i d r rows Yc
   rw[Yc]at hq;dsimp only at hq
   rintro⟨hp,q',ys,a,len,cap,g1,g2,g3,rfl⟩
   have Ro:=VW (DO.refl _) hB st Yc hp g1 g3;simp only[Rd]at Ro;obtain⟨a',cap',ee,hle,Ro⟩:=Ro;simp only[AId,Value.slice.injEq,AJo]at ee;obtain⟨rfl,rfl,rfl⟩:=ee;rcases Ro with Ro|⟨b',o,rfl,_,_⟩
   ·omega
   ·unfold ND
    rw[AGU (by omega)];have hq1:q.1=q':=by
     rw[g1]at hq;simp only[Option.map_some,AGL]at hq;rw[←hq]
    refine⟨_,_,e,Vk hT T8 h0 h1,by simp only[Option.map];rw[Addr.add_eq,Addr.add_eq];rfl,?_⟩;rw[Yc];refine⟨hp,q',ys,b',o,_,cap,g1,by omega,g3,?_⟩;dsimp only;rw[Addr.add_eq,Addr.add_eq,hq1,ALP,←AJ3];rfl
  ·rename_i B Yc m8
   exfalso
   cases B with
   |sl d r rows=>exact Yc d r rows rfl
   |_=>rw[m8]at hq;simp at hq
  ·exact fun h=>h.elim
 ·cases e
theorem VK{σ:St}{t:Nat}{x i:XV}{k:K Y}{y:Y}(e:Qk T t σ x i k=some y){v u:Value}(hx:XR E w vw x v)(hi:XR E w vw i u):
  ∃z val,k z σ=some y∧(Instr.index t v u).run P w= .ok val w∧XR E w vw z val:=by
 unfold Qk at e;split at e
 ·rename_i s n hn
  obtain⟨κ,rfl⟩:=GB hn hi;have hv:=RS (E:=E) (w:=w) (vw:=vw) hx;subst hv;split at e
  case isFalse=>cases e
  rename_i lM;split at e
  case isFalse=>cases e
  rename_i hb;obtain⟨h0,h1⟩:=hb;refine⟨_,.int .u8 ((s.getD n.toNat 0).toNat:Int),e,?_,VR.int (E:=E) (vw:=vw) _ _⟩;have Dl:n.toNat<s.length:=by omega
  have:(⟨s.toArray⟩:ByteArray)[n.toNat]? =some s[n.toNat]:=by
   rw[getElem?_pos _ _ (by simpa[ByteArray.size]using Dl)];rfl
  simp[Instr.index,asIntOf,Aw (RP hT lM),h0,this,Dl]
 ·cases e
omit hT in
theorem V_{x z:XV}{i:Nat}(e:cn x i=some z){v:Value}(hx:XR E w vw x v):∃u,(Instr.extract v i).run P w= .ok u w∧XR E w vw z u:=by
 unfold cn at e;split at e
 case h_2=>cases e
 rename_i l;obtain⟨vs,rfl,RH⟩:=hx;split at e
 ·rename_i x hx
  cases e;obtain⟨v,hv,hr⟩:=RH.get hx;have:vs[i]? =some v:=by simpa using hv
  exact⟨v,by simp[Instr.extract,this],hr⟩
 ·rename_i q hx
  cases e;obtain⟨v,hv,ws,rfl,hr⟩:=RH.get hx;have:vs[i]? =some (.agg ws):=by simpa using hv
  exact⟨.agg ws,by simp[Instr.extract,this],ws,rfl,hr⟩
 ·cases e
omit hT in
theorem af{bx:List Bx}{Fs:List AAU}(hB:JX E w bx bx Fs)(st:∀c,E.S c→E.T c){x:AV}{n:Nat}(e:lenOf bx x=some n){v:Value}(hx:VR E w bx x v):
  ∃a cap,v= .slice a n cap:=by
 cases x with
 |nil=>simp only[lenOf,AGL]at e;subst e;exact⟨_,_,hx⟩
 |sl s r x=>
  simp only[lenOf,AGL]at e;subst e;simp only[VR,Rd]at hx;obtain⟨a,cap,h,_⟩:=hx;simp only[AId,AJo]at h;exact⟨a,cap,h⟩
 |ref b p=>
  simp only[lenOf]at e;split at e
  ·rename_i d r rows hb
   simp only[AGV]at e;obtain⟨q,hq,rfl⟩:=e;obtain⟨a,cap,h,_⟩:=lX hB st hx (q:=q.1) (ys:=q.2) (by simp only[Ja,hb];exact hq);exact⟨a,cap,h⟩
  ·cases e
 |VP b p off m=>
  simp only[lenOf]at e;split at e
  ·rename_i d r rows hb
   cases e;simp only[VR,hb]at hx;obtain⟨_,_,q,ys,a,len,cap,_,_,_,rfl⟩:=hx;exact⟨_,_,rfl⟩
  ·cases e
 |_=>simp[lenOf]at e
omit hT in
theorem OP{big:Bool}{x z:XV}{k:AV→Option Y}{y:Y}(e:hE big x z k=some y){v u:Value}(hx:XR E w vw x v)(hz:XR E w vw z u)(t s:Array TypeId)(tt:TypeId):
  ∃r val,k r=some y∧(if big then Builtin.max_ t tt #[v,u]else Builtin.min_ t tt #[v,u]).run P w= .ok val w∧VR E w vw r val:=by
 unfold hE at e;split at e
 ·rename_i j m j' n
  have hv:=UY (E:=E) (w:=w) (vw:=vw) hx;have hu:=UY (E:=E) (w:=w) (vw:=vw) hz;subst hv hu;split at e
  case isFalse=>cases e
  rename_i hj;subst hj;cases big with
  |true=>exact⟨_,.int j (if n>m then n else m),e,by simp[Builtin.max_,Builtin.max2],VR.int _ _⟩
  |false=>exact⟨_,.int j (if n<m then n else m),e,by simp[Builtin.min_,Builtin.min2],VR.int _ _⟩
 ·cases e
omit hT in
theorem ZP{op:UnOp}{x:XV}{k:AV→Option Y}{y:Y}(e:unX op x k=some y){v:Value}(hx:XR E w vw x v):
  ∃r val,k r=some y∧(Op.unary op v).run P w= .ok val w∧VR E w vw r val:=by
 unfold unX at e;split at e
 ·have hv:=Mb (E:=E) (w:=w) (vw:=vw) hx
  subst hv;exact⟨_,_,e,by simp[Op.unary],VR.bool _⟩
 ·rename_i j n
  have hv:=UY (E:=E) (w:=w) (vw:=vw) hx;subst hv;exact⟨_,.int j (j.wrap (0-n)),e,by simp[Op.unary,Op.intArith],VR.int _ _⟩
 ·cases e
end
end Go.Fw
end
section
namespace Go.Fw
theorem MT{a:Ty}(x:a.D):dc rfl x=x:=rfl
theorem WW{w:World}{S:Nat→Prop}:∀{r:Ty} {d j:Nat} {cs:List Value} {x:r.D} {F:AAU} {t:Ty} {y:t.D},Ow w S d r cs x F→Ah r j x=some ⟨t,y⟩→
  ∃v F1 F2,cs[j]? =some v∧Ow w S d t [v] y F1∧F.Perm (F1++F2)∧
   ∀(w':World) (S':Nat→Prop) (v':Value) (y':t.D) (aG:AAU) (x':r.D),(∀b,S b→S' b)→(∀b,S b→w'.heap[b]? =w.heap[b]?)→(∀b∈F2,w'.heap[b]? =w.heap[b]?)→
    Ow w' S' d t [v'] y' aG→Cd r j x t y' =some x'→ ∃F',F'.Perm (aG++F2)∧Ow w' S' d r (cs.set j v') x' F'
 | .cons c r,d,0,cs,x,F,t,y,h,e=>by
  simp only[Ow]at h;obtain⟨v,l,A,B,rfl,rfl,h1,h2⟩:=h;simp only[Ah,AGL,AIM]at e;obtain⟨rfl,e⟩:=e;obtain rfl:=AIe e;refine⟨v,A,B,rfl,h1,ALw _,fun w' S' v' y' aG x' hS ew hF ho hx=> ?_⟩;simp only[Cd,ALs,MT,AGL]at hx;subst hx;refine⟨aG++B,ALw _,?_⟩;simp only[Ow,ALK];exact⟨v',l,aG,B,rfl,rfl,ho,Cq hS ew hF h2⟩
 | .cons c r,d,j+1,cs,x,F,t,y,h,e=>by
  simp only[Ow]at h;obtain⟨v,l,A,B,rfl,rfl,h1,h2⟩:=h;simp only[Ah]at e;obtain⟨u,F1,F2,k1,k2,k3,k4⟩:=WW h2 e;refine⟨u,F1,A++F2,by simpa using k1,k2,?_,fun w' S' v' y' aG x' hS ew hF ho hx=> ?_⟩
  ·refine(AIZ A k3).trans ?_
   rw[←AGq,←AGq];exact AIS _ AIa
  ·simp only[Cd,AGV]at hx
   obtain⟨z,hz,rfl⟩:=hx;obtain⟨F',p1,p2⟩:=k4 w' S' v' y' aG z hS ew (fun b hb=>hF b (by simp[hb])) ho hz;refine⟨A++F',?_,?_⟩
   ·refine(AIZ A p1).trans ?_
    rw[←AGq,←AGq];exact AIS _ AIa
   ·simp only[Ow,List.set_cons_succ]
    exact⟨v,_,A,F',rfl,rfl,Cq hS ew (fun b hb=>hF b (by simp[hb])) h1,p2⟩
 | .int k,d,0,cs,x,F,t,y,h,e=>by
  simp only[Ah,AGL,AIM]at e;obtain⟨rfl,e⟩:=e;obtain rfl:=AIe e;have hc:=Q8 h;obtain⟨v,rfl⟩:∃v,cs=[v]:=by
   cases cs with
   |nil=>simp[Ty.n]at hc
   |cons a l=>cases l with
    |nil=>exact⟨a,rfl⟩
    |cons _ _=>simp[Ty.n]at hc
  refine⟨v,F,[],rfl,h,by simp,fun w' S' v' y' aG x' hS ew hF ho hx=>⟨aG,by simp,?_⟩⟩;simp only[Cd,ALs,MT,AGL]at hx;subst hx;exact ho
 | .bool,d,0,cs,x,F,t,y,h,e=>by
  simp only[Ah,AGL,AIM]at e;obtain⟨rfl,e⟩:=e;obtain rfl:=AIe e;have hc:=Q8 h;obtain⟨v,rfl⟩:∃v,cs=[v]:=by
   cases cs with
   |nil=>simp[Ty.n]at hc
   |cons a l=>cases l with
    |nil=>exact⟨a,rfl⟩
    |cons _ _=>simp[Ty.n]at hc
  refine⟨v,F,[],rfl,h,by simp,fun w' S' v' y' aG x' hS ew hF ho hx=>⟨aG,by simp,?_⟩⟩;simp only[Cd,ALs,MT,AGL]at hx;subst hx;exact ho
 | .str,d,0,cs,x,F,t,y,h,e=>by
  simp only[Ah,AGL,AIM]at e;obtain⟨rfl,e⟩:=e;obtain rfl:=AIe e;have hc:=Q8 h;obtain⟨v,rfl⟩:∃v,cs=[v]:=by
   cases cs with
   |nil=>simp[Ty.n]at hc
   |cons a l=>cases l with
    |nil=>exact⟨a,rfl⟩
    |cons _ _=>simp[Ty.n]at hc
  refine⟨v,F,[],rfl,h,by simp,fun w' S' v' y' aG x' hS ew hF ho hx=>⟨aG,by simp,?_⟩⟩;simp only[Cd,ALs,MT,AGL]at hx;subst hx;exact ho
 | .sl r,d,0,cs,x,F,t,y,h,e=>by
  simp only[Ah,AGL,AIM]at e;obtain⟨rfl,e⟩:=e;obtain rfl:=AIe e;have hc:=Q8 h;obtain⟨v,rfl⟩:∃v,cs=[v]:=by
   cases cs with
   |nil=>simp[Ty.n]at hc
   |cons a l=>cases l with
    |nil=>exact⟨a,rfl⟩
    |cons _ _=>simp[Ty.n]at hc
  refine⟨v,F,[],rfl,h,by simp,fun w' S' v' y' aG x' hS ew hF ho hx=>⟨aG,by simp,?_⟩⟩;simp only[Cd,ALs,MT,AGL]at hx;subst hx;exact ho
 | .unit,_,_,_,_,_,_,_,_,e=>by simp[Ah]at e
 | .int _,_,_+1,_,_,_,_,_,_,e=>by simp[Ah]at e
 | .bool,_,_+1,_,_,_,_,_,_,e=>by simp[Ah]at e
 | .str,_,_+1,_,_,_,_,_,_,e=>by simp[Ah]at e
 | .sl _,_,_+1,_,_,_,_,_,_,e=>by simp[Ah]at e
theorem ZS{Fs:List AAU}{i:Nat}{G G':AAU}(h:Fs[i]? =some G):(Fs.set i G').flatten.Perm (G'++(Fs.set i []).flatten):=by
 have Dl:=(AF9.1 h).1;have p1:=O3 (Fs:=Fs.set i G') (b:=i) (F:=G') (AH0 (by omega));rw[ALg]at p1;exact p1
theorem iD{w:World}{S:Nat→Prop}{d:Nat}{q:Ty}{a:Option Addr}{len cap:Nat}{ys:List q.D}{F:AAU}(h:Ow w S (d+1) (.sl q) [.slice a len cap] ys F){i:Nat}(hi:i<ys.length):
  ∃b o arr ty fr cs G R,a=some ⟨b,o,none⟩∧w.heap[b]? =some (.cells arr ty fr)∧mR fr arr.size∧o+i*q.n+q.n≤arr.size∧cs.length=q.n∧Bp w b (o+i*q.n) cs∧
   Ow w S d q cs (rowAt q ys i) G∧F.Perm (G++(b::R))∧
   ∀(w':World) (S':Nat→Prop) (Jf:Array Value) (VB:List Value) (T1:q.D) (G':AAU),(∀c,S c→S' c)→(∀c,S c→w'.heap[c]? =w.heap[c]?)→(∀c∈R,w'.heap[c]? =w.heap[c]?)→
    w'.heap[b]? =some (.cells Jf ty fr)→Jf.size=arr.size→(∀k,(k<o+i*q.n∨o+i*q.n+q.n≤k)→Jf[k]? =arr[k]?)→VB.length=q.n→Bp w' b (o+i*q.n) VB→
    Ow w' S' d q VB T1 G'→ ∃F',F'.Perm (G'++(b::R))∧Ow w' S' (d+1) (.sl q) [.slice a len cap] (ys.set i T1) F':=by
 simp only[Ow]at h;obtain⟨a',cap',e,hle,h⟩:=h;simp only[AId,Value.slice.injEq,AJo]at e;obtain⟨rfl,rfl,rfl⟩:=e;rcases h with⟨h1,_⟩|⟨b,o,arr,ty,fr,Fs,rfl,hb,LW,hu,rfl,hFl,U_⟩
 ·omega
 ·have hG:Fs[i]? =some (Fs[i]'(by omega)):=AGI _
  generalize Fs[i]'(by omega)=G at hG
  obtain⟨cs,c1,c2,c3⟩:=U_ i _ G (L5 hi) hG;have hbound:o+i*q.n+q.n≤arr.size:=by
   have:(i+1)*q.n≤cap*q.n:=AIq _ (by omega);rw[AJ3,ALi]at this;omega
  refine⟨b,o,arr,ty,fr,cs,G,(Fs.set i []).flatten,rfl,hb,fun i hi=>hu i (by omega),hbound,c1,c2,c3,?_,?_⟩
  ·refine(List.Perm.cons b (O3 hG)).trans ?_
   exact List.perm_middle.symm
  ·intro w' S' Jf VB T1 G' hS ew hR nF wF hk Vp hca ho
   refine⟨b::(Fs.set i G').flatten,?_,?_⟩
   ·refine(List.Perm.cons b (ZS hG)).trans ?_
    exact List.perm_middle.symm
   ·simp only[Ow]
    refine⟨_,cap,by simp,by simpa using hle,.inr ⟨b,o,Jf,ty,fr,Fs.set i G',rfl,nF,by omega,by rw[wF];exact hu,rfl,by simpa using hFl,fun k y H hy hH=> ?_⟩⟩;by_cases e:k=i
    ·subst e
     rw[AH0 hi]at hy;rw[AH0 (by omega)]at hH;cases hy;cases hH;exact⟨VB,Vp,hca,ho⟩
    ·rw[AHF (by omega)]at hy
     rw[AHF (by omega)]at hH;obtain⟨ds,d1,d2,d3⟩:=U_ k y H hy hH;refine⟨ds,d1,fun j v hj=> ?_,Cq hS ew (fun c hc=>hR c (AIb.2 ⟨H,AH9 (by rw[AHF (by omega)];exact hH:(Fs.set i [])[k]? =some H),hc⟩)) d3⟩;have nN:=(AF9.1 hj).1;have hold:=d2 j v hj;simp only[World.cell?,hb,AKK,AHU,AIk]at hold;simp only[World.cell?,nF,AKK,AHU,AIk];rw[hk,hold];rcases Nat.lt_or_gt_of_ne e with e|e
     ·left
      have:(k+1)*q.n≤i*q.n:=AIq _ e;rw[AJ3,ALi]at this;omega
     ·right
      have:(i+1)*q.n≤k*q.n:=AIq _ e;rw[AJ3,ALi]at this;omega
theorem dz{w:World}{S:Nat→Prop}:∀{p:List ae} {d:Nat} {r:Ty} {h:Value} {rows:List r.D} {F:AAU} {q:Ty} {ys:List q.D},Ow w S d (.sl r) [h] rows F→CJ r rows p→
  EY r rows p=some ⟨q,ys⟩→p.length<d→ ∃h' F1 F2,Gw w h p=some h'∧Ow w S (d-p.length) (.sl q) [h'] ys F1∧F.Perm (F1++F2)∧
   ∀(w':World) (S':Nat→Prop) (dS:List q.D) (aG:AAU) (B3:List r.D),(∀c,S c→S' c)→(∀c,S c→w'.heap[c]? =w.heap[c]?)→(∀c∈F2,w'.heap[c]? =w.heap[c]?)→
    Ow w' S' (d-p.length) (.sl q) [h'] dS aG→cM r rows p q dS=some B3→ ∃F',F'.Perm (aG++F2)∧Ow w' S' d (.sl r) [h] B3 F'
 |[],d,r,h,rows,F,q,ys,ho,_,hg,_=>by
  simp only[EY,AGL,AIM]at hg;obtain⟨rfl,e⟩:=hg;obtain rfl:=AIe e;refine⟨h,F,[],B5,ho,by simp,fun w' S' dS aG B3 _ _ _ mN hs=>⟨aG,by simp,?_⟩⟩;simp only[cM,ALs,MT,AGL]at hs;subst hs;exact mN
 |s::p,d,r,h,rows,F,q,ys,ho,hp,hg,hd=>by
  obtain⟨d,rfl⟩:∃n,d=n+1:=⟨d-1,by simp at hd;omega⟩;simp only[CJ]at hp;obtain⟨hi,LW,hp⟩:=hp;simp only[EY]at hg;obtain⟨a,len,cap,rfl⟩:∃a len cap,h= .slice a len cap:=by
   have:=ho;simp only[Ow]at this;obtain⟨a,cap,e,_⟩:=this;simp only[AId,AJo]at e;exact⟨_,_,_,e⟩
  split at hg
  case h_2=>cases hg
  rename_i q' x' WC;rw[WC]at hp;obtain⟨b,o,arr,ty,fr,cs,G,R,rfl,hb,hu,hbd,c1,c2,c3,aO,hback⟩:=iD ho hi;obtain⟨v,A1,A2,k1,k2,k3,k4⟩:=WW c3 WC;obtain⟨h',F1,F2,m1,m2,m3,m4⟩:=dz k2 hp hg (by simp at hd;omega);have q7:d+1-(s::p).length=d-p.length:=by simp
  refine⟨h',F1,F2++A2++(b::R),?_,by rw[q7];exact m2,?_,?_⟩
  ·simp only[Gw]
   rw[LW,c2 _ _ k1];exact m1
  ·refine aO.trans ?_
   rw[AGq F2,←AGq F1];refine(AIS _ k3).trans ?_
   rw[←AGq (F1++F2)];exact AIS _ (AIS _ m3)
  ·intro w' S' dS aG B3 hS ew hF2 mN PX
   rw[q7]at mN;simp only[cM,WC]at PX;simp only[AGs,AGV]at PX;obtain⟨x2,hx2,T1,hrow,rfl⟩:=PX;obtain⟨B1,p1,p2⟩:=m4 w' S' dS aG x2 hS ew (fun c hc=>hF2 c (by simp[hc])) mN hx2;obtain⟨B2,p3,p4⟩:=k4 w' S' v x2 B1 T1 hS ew (fun c hc=>hF2 c (by simp[hc])) p2 hrow;have yH:cs.set s.j v=cs:=by
    apply ALM;intro k;by_cases e:k=s.j
    ·subst e
     rw[AH0 (AF9.1 k1).1,k1]
    ·rw[AHF (by omega)]
   rw[yH]at p4;have sW:=hF2 b (by simp);obtain⟨F',p5,p6⟩:=hback w' S' arr cs T1 B2 hS ew (fun c hc=>hF2 c (by simp[hc])) (sW.trans hb) rfl (fun _ _=>rfl) c1 (c2.of_block sW) p4;refine⟨F',?_,p6⟩;refine p5.trans ?_
   rw[AGq F2,←AGq aG];refine(AIS _ p3).trans ?_
   rw[←AGq (aG++F2)];exact AIS _ (AIS _ p1)
end Go.Fw
end
section
namespace Go.Fw
def OR(E:Env)(w:World)(vw:List Bx):Option XV→Option Value→Prop
 |none,none=>True
 |some x,some v=>XR E w vw x v
 |_,_=>False
section
variable{Y:Type} {P:Program} {T:HE} (hT:DY P T) {E:Env} {w:World} {vw:List Bx}
theorem run_sliceBound{κ:IntKind}{i:Int}{y:Nat}{code:BoundsCode}(h0:0≤i)(h1:i≤(y:Int)):(Instr.sliceBound (.int κ i) y code).run P w= .ok i.toNat w:=by
 simp[Instr.sliceBound,asIntOf,h0,h1]
theorem N3{len cap:Nat}(hc:len≤cap){lo hi:Option XV}{k:Nat→Nat→Option Y}{y:Y}(e:KK len lo hi k=some y){lv hv:Option Value}
  (hl:OR E w vw lo lv) (hh:OR E w vw hi hv) (b:Bool):∃l h,k l h=some y∧l≤h∧h≤len∧(Instr.sliceBounds b len cap lv hv none).run P w= .ok (l,h,cap) w:=by
 unfold KK at e;dsimp only at e;split at e
 case h_2=>cases e
 rename_i l h el eh;split at e
 case isFalse=>cases e
 rename_i hb;obtain⟨b1,b2,b3⟩:=hb;refine⟨l.toNat,h.toNat,e,by omega,by omega,?_⟩;cases hi with
 |none=>cases hv with
  |some _=>exact hh.elim
  |none=>
   simp only[AGL]at eh;subst eh;cases lo with
   |none=>cases lv with
    |some _=>exact hl.elim
    |none=>
     simp only[AGL]at el;subst el;simp[Instr.sliceBounds]
   |some x=>cases lv with
    |none=>exact hl.elim
    |some v=>
     obtain⟨κ,rfl⟩:=GB (E:=E) (w:=w) (vw:=vw) el hl;simp[Instr.sliceBounds,run_sliceBound (P:=P) (w:=w) (κ:=κ) (i:=l) (y:=len) b1 (by omega)]
 |some x=>cases hv with
  |none=>exact hh.elim
  |some v=>
   obtain⟨κ,rfl⟩:=GB (E:=E) (w:=w) (vw:=vw) eh hh;have e1:=fun code=>run_sliceBound (P:=P) (w:=w) (κ:=κ) (i:=h) (y:=cap) (code:=code) (by omega) (by omega)
   cases lo with
   |none=>cases lv with
    |some _=>exact hl.elim
    |none=>
     simp only[AGL]at el;subst el;simp[Instr.sliceBounds,e1]
   |some x=>cases lv with
    |none=>exact hl.elim
    |some v=>
     obtain⟨κ',rfl⟩:=GB (E:=E) (w:=w) (vw:=vw) el hl;have e2:=fun code=>run_sliceBound (P:=P) (w:=w) (κ:=κ') (i:=l) (y:=h.toNat) (code:=code) b1 (by omega)
     simp[Instr.sliceBounds,e1,e2]
theorem fg(s:AAg)(l h:Nat):(⟨s.toArray⟩:ByteArray).extract l h=⟨((s.drop l).take (h-l)).toArray⟩:=by
 apply ByteArray.ext;simp[List.extract_eq_take_drop]
include hT
theorem Yn{σ:St}{Fs:List AAU}(hB:JX E w σ.bx σ.bx Fs)(st:∀c,E.S c→E.T c){t:Nat}{x:XV}{lo hi:Option XV}{k:K Y}{y:Y}(e:ZB T t σ x lo hi k=some y)
  {v:Value} {lv hv:Option Value} (hx:XR E w σ.bx x v) (hl:OR E w σ.bx lo lv) (hh:OR E w σ.bx hi hv):
  ∃z val,k z σ=some y∧(Instr.sliceAt t v lv hv none).run P w= .ok val w∧XR E w σ.bx z val:=by
 unfold ZB at e;split at e
 ·rename_i s
  split at e
  case isFalse=>cases e
  rename_i lM;have hu:=RP hT lM;have VD:=RS (E:=E) (w:=w) (vw:=σ.bx) hx;subst VD;obtain⟨l,h,ek,h1,h2,hr⟩:=N3 (P:=P) (cap:=s.length) (AIi _) e hl hh false;refine⟨_,.string ⟨((s.drop l).take (h-l)).toArray⟩,ek,?_,VR.str (E:=E) (vw:=σ.bx) _⟩;have hs:(⟨s.toArray⟩:ByteArray).size=s.length:=by simp[ByteArray.size]
  simp[Instr.sliceAt,Aw hu,Instr.slice,hs,hr,fg]
 ·rename_i s r rows
  split at e
  case isFalse=>cases e
  rename_i T8;obtain⟨el,ti,hu,Mu,hs,_⟩:=KM hT T8;have LW:=DY.sizeOf hT Mu w
  change VR E w σ.bx (.sl s r rows) v at hx
  have ks:=hx;simp only[VR,Rd]at ks;obtain⟨a,cap,VD,hle,_⟩:=ks;simp only[AId,AJo]at VD;subst VD;obtain⟨l,h,ek,h1,h2,hr⟩:=N3 (P:=P) hle e hl hh true;refine⟨_,ND r.n l (h-l) a cap,ek,?_,?_⟩
  ·simp[Instr.sliceAt,Aw hu,Instr.slice,hr,LW,hs,ND]
  ·simp only[XR,VR]at hx⊢
   exact lP hx (by omega)
 ·rename_i b p
  split at e
  case h_2=>cases e
  rename_i q hq;split at e
  case isFalse=>cases e
  rename_i T8;obtain⟨el,ti,hu,Mu,hs,_⟩:=KM hT T8;have LW:=DY.sizeOf hT Mu w
  change VR E w σ.bx (.ref b p) v at hx
  obtain⟨a,cap,rfl,hle,_⟩:=lX hB st hx hq;obtain⟨l,h,ek,h1,h2,hr⟩:=N3 (P:=P) hle e hl hh true;refine⟨_,ND q.1.n l (h-l) a cap,ek,?_,?_⟩
  ·simp[Instr.sliceAt,Aw hu,Instr.slice,hr,LW,hs,ND]
  ·simp only[Ja]at hq
   obtain⟨_,hx⟩:=hx;refine⟨by simp[ND,isSlice],?_⟩;revert hx;split
   ·rename_i d r rows Yc
    rw[Yc]at hq;dsimp only at hq
    rintro⟨hp,hg,hh⟩
    exact⟨hp,q.1,q.2,a,_,cap,hq,by omega,hh,rfl⟩
   ·exact fun _=>trivial
   ·exact fun h=>h
 ·cases e
omit hT in
theorem UQ{f:Nat→Option AV}:∀{n j:Nat} {l:List AV},V0 f j n=some l→l.length=n∧ ∀(i:Nat) x,l[i]? =some x→f (j+i)=some x
 |0,j,l,e=>by simp only[V0,AGL]at e;subst e;simp
 |n+1,j,l,e=>by
  simp only[V0,AGs,AGV]at e;obtain⟨x,hx,l',hl,rfl⟩:=e;obtain⟨h1,h2⟩:=UQ hl;refine⟨by simp[h1],fun i z hz=> ?_⟩;cases i with
  |zero=>simp at hz;subst hz;exact hx
  |succ i=>
   have:=h2 i z (by simpa using hz)
   rwa [show j+1+i=j+(i+1)by omega]at this
omit hT in
theorem Qn{B:Nat→Prop}{t:Ty}{x:t.D}{v:Value}(h:Rd w B t [v] x)(hs:t.scalar=true):VR E w vw (.v t x) v:=by
 refine⟨hs,?_⟩;cases t<;>first
  |(simpa only[Rd]using h)
  |(simp[Ty.scalar]at hs)
omit hT in
theorem od{s:Bool}{t:Ty}{x:t.D}{v:Value}(h:Rd w (if s then E.S else E.T) t [v] x):VR E w vw (lS s ⟨t,x⟩) v:=by
 cases t with
 |sl r=>simp only[lS,VR];exact h
 |int k=>exact Qn h rfl
 |bool=>exact Qn h rfl
 |str=>exact Qn h rfl
 |unit=>trivial
 |cons c r=>trivial
omit hT in
theorem aC{s:ae}:∀{p:List ae} {r:Ty} {rows:List r.D} {q:Ty} {ys:List q.D} {t:Ty} {x:List t.D},CJ r rows p→EY r rows p=some ⟨q,ys⟩→s.i<ys.length→s.sz=q.n→
  Ah q s.j (rowAt q ys s.i)=some ⟨.sl t,x⟩→CJ r rows (p++[s])∧EY r rows (p++[s])=some ⟨t,x⟩
 |[],r,rows,q,ys,t,x,_,hg,hi,hs,hc=>by
  simp only[EY,AGL,AIM]at hg;obtain⟨rfl,e⟩:=hg;obtain rfl:=AIe e;refine⟨?_,?_⟩
  ·simp only[AIf,CJ,hc]
   exact⟨hi,hs,trivial⟩
  ·simp only[AIf,EY,hc]
 |s'::p,r,rows,q,ys,t,x,hp,hg,hi,hs,hc=>by
  simp only[CJ]at hp;obtain⟨h1,h2,hp⟩:=hp;simp only[EY]at hg;split at hg
  ·rename_i q' x' WC
   rw[WC]at hp;obtain⟨a,b⟩:=aC hp hg hi hs hc;refine⟨?_,?_⟩
   ·simp only[AKF,CJ,WC]
    exact⟨h1,h2,a⟩
   ·simp only[AKF,EY,WC]
    exact b
  ·cases hg
omit hT in
theorem cR{s:ae}:∀{p:List ae} {h:Value} {b o len cap:Nat} {v:Value},Gw w h p=some (.slice (some ⟨b,o,none⟩) len cap)→w.cell? ⟨b,o+s.i*s.sz+s.j,none⟩=some v→
  Gw w h (p++[s])=some v
 |[],h,b,o,len,cap,v,e,hc=>by
  rw[B5]at e;cases e;simp[Gw,hc,B5]
 |s'::p,h,b,o,len,cap,v,e,hc=>by
  cases h with
  |slice a l c=>
   cases a with
   |none=>simp[Gw]at e
   |some a=>
    simp only[Gw]at e;split at e
    ·rename_i h' hh
     simp only[AKF,Gw,hh];exact cR e hc
    ·cases e
  |_=>simp[Gw]at e
omit hT in
theorem H7{bx:List Bx}{Fs:List AAU}(hB:JX E w bx bx Fs)(st:∀c,E.S c→E.T c){x z:AV}{i:Nat}(e:Gg bx x i=some z){v:Value}(hx:VR E w bx x v):
  ∃b o u,v= .pointer (some ⟨b,o,none⟩)∧w.cell? ⟨b,o+i,none⟩=some u∧VR E w bx z u:=by
 cases x with
 |FW b j=>
  simp only[Gg]at e;split at e
  ·rename_i cs hb
   obtain⟨F,⟨_,arr,ty,fr,ha,hu,hv⟩,_⟩:=hB.get hb;obtain⟨u,h1,h2⟩:=Bj.get hv e;refine⟨_,_,u,hx.2,?_,h2⟩;simp only[World.cell?,ha,AKK,AHU,AIk];simpa using h1
  ·cases e
 |Gq b p r sz j=>
  simp only[Gg]at e;split at e
  ·rename_i d q rows hb
   split at e
   case isFalse=>cases e
   rename_i hd;simp only[AGs]at e;obtain⟨⟨q',dS⟩,hg,e⟩:=e;split at e
   case isFalse=>cases e
   rename_i LW;simp only[AGV]at e;obtain⟨⟨t,y⟩,hc,rfl⟩:=e;simp only[VR,hb]at hx;obtain⟨_,hp,q1,ys,bb,o,len,cap,g1,g2,g3,rfl⟩:=hx;rw[hg]at g1;simp only[AGL,AIM]at g1;obtain⟨rfl,g1⟩:=g1;obtain rfl:=AIe g1;dsimp only at LW hc;obtain⟨F,⟨hd1,ho⟩,hF⟩:=hB.get hb;have Ro:=VW (DO.refl bx) hB st hb hp hg g3;have ANU:=Ro;simp only[Rd]at Ro;obtain⟨a',cap',ee,hle,Ro⟩:=Ro;simp only[AId,Value.slice.injEq,AJo]at ee;obtain⟨rfl,rfl,rfl⟩:=ee;rcases Ro with Ro|⟨b1,o1,e7,_,Ro⟩
   ·omega
   ·cases e7
    obtain⟨cs,c1,c2,c3⟩:=Ro r _ (L5 g2);obtain⟨u,hu,hur⟩:=WR c3 hc;have SO:=c2 _ _ hu;rw[←LW]at SO;refine⟨_,_,u,rfl,by rw[ALP];exact SO,?_⟩;cases t with
    |sl t' =>
     simp only[mj];split
     ·rename_i s7
      obtain⟨h',F1,F2,m1,m2,_,_⟩:=dz ho hp hg hd;rw[g3]at m1;cases m1;rw[show d-p.length=0+1 by omega]at m2;obtain⟨b2,o2,arr,ty,fr,cs2,G,R,e2,_,_,_,_,k2,k3,_,_⟩:=iD m2 g2;cases e2;obtain⟨v2,A1,A2,z1,z2,_,_⟩:=WW k3 hc;have rj:=k2 _ _ z1;rw[←LW,SO]at rj;cases rj;simp only[Ow]at z2;simp only[VR];exact z2.1
     ·simp only[VR,hb]
      have:=aC (s:=⟨r,sz,j+i⟩) hp hg g2 LW hc;simp only[Rd]at hur;obtain⟨a2,cap2,e2,_⟩:=hur;simp only[AId,AJo]at e2;refine⟨by rw[e2];rfl,this.1,⟨_,this.2⟩,cR g3 SO⟩
    |int k=>exact Qn hur rfl
    |bool=>exact Qn hur rfl
    |str=>exact Qn hur rfl
    |unit=>trivial
    |cons c r=>trivial
  ·cases e
 |J4 s r y j=>
  simp only[Gg,AGV]at e;obtain⟨⟨t,y'⟩,hc,rfl⟩:=e;obtain⟨bb,o,cs,rfl,h2,h3,h4,h5⟩:=hx;obtain⟨u,hu,hur⟩:=WR h5 hc;refine⟨_,_,u,rfl,by rw[ALP];exact h4 _ _ hu,od hur⟩
 |_=>simp[Gg]at e
omit hT in
theorem VU{bx:List Bx}{Fs:List AAU}(hB:JX E w bx bx Fs)(st:∀c,E.S c→E.T c){x:AV}{v:Value}(hx:VR E w bx x v){b o:Nat}(hv:v= .pointer (some ⟨b,o,none⟩)):
  ∀{l:List AV} {j:Nat},(∀(i:Nat) z,l[i]? =some z→Gg bx x (j+i)=some z)→ ∃cs:List Value,cs.length=l.length∧Bp w b (o+j) cs∧YB E w bx l cs
 |[],_,_=>⟨[],rfl,fun _ _ h=>by simp at h,trivial⟩
 |z::l,j,h=>by
  obtain⟨b',o',u,e1,e2,e3⟩:=H7 hB st (h 0 z rfl) hx;subst hv;simp only[Value.pointer.injEq,AGL,Addr.mk.injEq,AJo]at e1;obtain⟨rfl,rfl⟩:=e1;obtain⟨cs,c1,c2,c3⟩:=VU hB st hx rfl (l:=l) (j:=j+1) (fun i y hy=>by
   have:=h (i+1) y (by simpa using hy)
   rwa [show j+1+i=j+(i+1)by omega])
  refine⟨u::cs,by simp[c1],fun i y hy=> ?_,e3,c3⟩;cases i with
  |zero=>simp at hy;subst hy;exact e2
  |succ i=>
   have:=c2 i y (by simpa using hy)
   rwa [show o+(j+1)+i=o+j+(i+1)by omega]at this
theorem kK{σ:St}{Fs:List AAU}(hB:JX E w σ.bx σ.bx Fs)(st:∀c,E.S c→E.T c){t:Nat}{x z:XV}(e:aF T t σ x=some z){v:Value}(hx:XR E w σ.bx x v):
  ∃u,(Instr.loadAt t v).run P w= .ok u w∧XR E w σ.bx z u:=by
 unfold aF at e;split at e
 case h_2=>cases e
 rename_i x ti Mu;split at e
 case isTrue=>cases e
 rename_i LW;have Yi:=DY.isAgg hT Mu w;split at e
 ·rename_i ha
  rw[ha]at Yi;simp only[AGV]at e;obtain⟨l,hl,rfl⟩:=e;obtain⟨h1,h2⟩:=UQ hl;have h0:0<l.length:=by omega
  obtain⟨b,o,u,hv,_,_⟩:=H7 hB st (h2 0 _ (AGI h0)) hx;obtain⟨cs,c1,c2,c3⟩:=VU hB st hx hv (l:=l) (j:=0) (fun i y hy=>by simpa using h2 i y hy);subst hv;have YW:=(hT t ti Mu).qH;cases hd:ti.desc with
  |st fs=>
   rw[hd]at YW;obtain⟨fields,hu,_⟩:=YW;refine⟨.agg cs.toArray,run_loadAt_mid w b o t cs _ (by simpa[Bp,World.rangeAt]using c2) hu rfl ?_,cs.toArray,rfl,by simpa using c3⟩;rw[DY.size hT Mu,c1,h1]
  |_=>rw[hd]at ha;simp[TD.agg]at ha
 ·rename_i ha
  simp only[AIY]at ha;rw[ha]at Yi;simp only[AGV]at e;obtain⟨y,hy,rfl⟩:=e;obtain⟨b,o,u,hv,hc,hr⟩:=H7 hB st hy hx;subst hv;refine⟨u,?_,hr⟩;simp only[AK1]at hc;simp[Instr.loadAt,Instr.sureAddr,loadVar,Yi,hc]
end
end Go.Fw
end
section
namespace Go.Fw
theorem dd{w:World}{S:Nat→Prop}{d:Nat}{q:Ty}:Ow w S d (.sl q) [.slice none 0 0] [] []:=by
 cases d with
 |zero=>simp only[Ow,Rd];exact⟨⟨none,0,rfl,by simp,.inl rfl⟩,trivial⟩
 |succ d=>simp only[Ow];exact⟨none,0,rfl,by simp,.inl ⟨rfl,trivial⟩⟩
theorem sI{w:World}{S:Nat→Prop}{d:Nat}{r:Ty}{a:Option Addr}{len cap:Nat}{ys:List r.D}{F:AAU}(h:Ow w S (d+1) (.sl r) [.slice a len cap] ys F){off n:Nat}(hn:off+n≤ys.length):
  ∃F1 F2,F.Perm (F1++F2)∧Ow w S (d+1) (.sl r) [ND r.n off n a cap] ((ys.drop off).take n) F1:=by
 simp only[Ow]at h⊢;obtain⟨a',cap',e,hc,h⟩:=h;simp only[AId,Value.slice.injEq,AJo]at e;obtain⟨rfl,rfl,rfl⟩:=e;have hl:((ys.drop off).take n).length=n:=by simp;omega
 by_cases h0:cap=off
 ·subst h0
  refine⟨[],F,by simp,a,0,by simp[ND,hl],by rw[hl];omega,.inl ⟨rfl,rfl⟩⟩
 ·rcases h with⟨h,rfl⟩|⟨b,o,arr,ty,fr,Fs,rfl,hb,LW,hu,rfl,hFl,hr⟩
  ·refine⟨[],[],by simp,a.map (·.add (off*r.n)),cap-off,by simp[ND,hl,h0],by rw[hl];omega,.inl ⟨by omega,rfl⟩⟩
  ·have p:Fs.flatten.Perm (((Fs.drop off).take n).flatten++((Fs.take off).flatten++(Fs.drop (off+n)).flatten)):=by
    have e:Fs=Fs.take off++(((Fs.drop off).take n)++Fs.drop (off+n)):=by
     rw[←List.drop_drop,ALl,ALl]
    conv=>lhs;rw[e]
    rw[AJ4,AJ4,←AGq,←AGq];exact AIS _ AIa
   refine⟨b::((Fs.drop off).take n).flatten,(Fs.take off).flatten++(Fs.drop (off+n)).flatten,List.Perm.cons b p,some ⟨b,o+off*r.n,none⟩,cap-off,?_,by rw[hl];omega,.inr ⟨b,o+off*r.n,arr,ty,fr,_,rfl,hb,?_,hu,rfl,?_,?_⟩⟩
   ·simp[ND,h0,hl,Addr.add_eq]
   ·have:off*r.n+(cap-off)*r.n=cap*r.n:=by rw[←AJ3];congr 1;omega
    omega
   ·rw[hl];simp;omega
   ·intro i y G hy hG
    have hi:=(AF9.1 hy).1;rw[hl]at hi;rw[List.getElem?_take_of_lt hi,ALJ]at hy hG;obtain⟨cs,c1,c2,c3⟩:=hr (off+i) y G hy hG;refine⟨cs,c1,?_,c3⟩;rw[AJ3,←ALP]at c2;exact c2
theorem Le.keep{E E':Env}(h:Le E E'){w:World}{vw:List Bx}(st:∀c,E.S c→E.T c):Nk E w vw E' w vw:=
 ⟨AIi _,fun b _=>by rw[h.Fc],h.T,h.S,st,fun _ _=>rfl,fun b d r rows _ e=>⟨d,rows,e,fun p hp q ys hg=>⟨hp,⟨ys,hg,rfl⟩,fun h' hh=>by rw[h.Fq];exact hh⟩⟩⟩
theorem CD.share{E:Env}{w:World}{vw bx:List Bx}{F W G:AAU}(h:CD E w vw bx (F++W++G)):
  let E':Env:={ E with S:=fun c=>E.S c∨c∈W,T:=fun c=>E.T c∨c∈W }
  Le E E'∧CD E' w vw bx (F++G):=by
 intro E';have st:=h.st;have hle:Le E E':=⟨rfl,rfl,fun c hc=> .inl hc,fun c hc=> .inl hc,fun c hc=>hc.elim .inl fun h' => .inr (.inr h'),fun c hc=>hc.elim .inl fun h' => .inr (h.qf c (by simp[h']))⟩;refine⟨hle,?_⟩;obtain⟨Fs,⟨h1,h2⟩,h3⟩:=h;refine⟨Fs,⟨h1,fun k B F' hk hF=> ?_⟩,?_⟩
 ·have:=h2 k B F' hk hF
  cases B with
  |mem cs=>
   obtain⟨rfl,arr,ty,fr,a1,a2,a3⟩:=this;exact⟨rfl,arr,ty,fr,a1,a2,a3.imp fun _ _ hv=>D_ (hle.keep st) hv⟩
  |sl d r rows=>exact⟨this.1,Cq hle.S (fun _ _=>rfl) (fun _ _=>rfl) this.2⟩
  |dead=>exact this
 ·have h4:Sep E w (W++(Fs.flatten++(F++G))):=h3.perm (by
   rw[AGq F W G,←AGq Fs.flatten,←AGq (Fs.flatten++F),←AGq Fs.flatten F G,←AGq W];exact AIS _ AIa)
  refine⟨(AHW.1 h4.nodup).2.1,fun c hc ht=> ?_,fun c hc=>h4.lt c (by simp only[AHp];exact .inr (by simpa using hc)),fun c hc=>hc.imp (st c) id,fun c hc=>hc.elim (h4.W0 c) fun h' =>h4.lt c (by simp[h'])⟩;rcases ht with ht|ht
  ·exact h4.free c (AHp.2 (.inr hc)) ht
  ·exact(AHW.1 h4.nodup).2.2 c ht c hc rfl
structure El (E:Env) (w:World) (vw bx:List Bx) (G:AAU) (E':Env) (Ls:List Bx) (F:AAU):Prop where
 le:Le E E'
 len:Ls.length=bx.length
 within:∀(b:Nat) (B:Bx),Ls[b]? =some B→B= .dead∨bx[b]? =some B
 boxes:CD E' w vw Ls (F++G)
theorem El.refl{E:Env}{w:World}{vw bx:List Bx}{G:AAU}(h:CD E w vw bx G):El E w vw bx G E bx []:=
 ⟨Le.refl E,rfl,fun _ _ h=> .inr h,h⟩
theorem DO.dQ{E E':Env}{w:World}{vw bx Ls:List Bx}{G F:AAU}(h:DO bx vw)(k:El E w vw bx G E' Ls F):DO Ls vw:=fun b B e=>
 (k.within b B e).elim .inl (h b B)
theorem UD{E:Env}{w:World}{vw bx:List Bx}{G:AAU}(h:CD E w vw bx G)(hw:DO bx vw){d:Nat}(hd:1≤d){t:Ty}{x:AV}{v:Value}(hv:VR E w vw x v){y:t.D}{Ls:List Bx}{d':Nat}
  (e:Vx d t x bx=some (y,Ls,d')):1≤d'∧d'≤d∧ ∃E' F,El E w vw bx G E' Ls F∧Ow w E'.S (d'-1) t [v] y F:=by
 unfold Vx at e;split at e
 ·rename_i u z
  simp only[AGV,AIh]at e;obtain⟨z',e1,rfl,rfl,rfl⟩:=e;obtain⟨e2,e3⟩:=Fh e1;subst e2;subst e3;refine⟨hd,AIi _,E,[],El.refl h,?_⟩;obtain⟨hs,hr⟩:=hv;cases u<;>simp_all[Ty.scalar,Ow,Rd]
 ·split at e
  ·simp only[AGL,AIh]at e
   obtain⟨rfl,rfl,rfl⟩:=e;simp only[VR]at hv;subst hv;exact⟨hd,AIi _,E,[],El.refl h,dd⟩
  ·cases e
 ·rename_i r z
  split at e
  ·rename_i q
   simp only[AGV,AIh]at e;obtain⟨z',e1,rfl,rfl,rfl⟩:=e;obtain⟨e2,e3⟩:=Fh e1;subst e2;subst e3;refine⟨AIi _,hd,E,[],El.refl h,?_⟩;simp only[VR]at hv;simp only[ALh,Ow];exact⟨by simpa using hv,trivial⟩
  ·cases e
 ·rename_i b
  split at e
  case h_2=>cases e
  rename_i q;split at e
  case h_2=>cases e
  rename_i db r z hb;simp only[AGV,AIh]at e;obtain⟨z',e1,rfl,rfl,rfl⟩:=e;obtain⟨e2,e3⟩:=Fh e1;subst e2;subst e3;obtain⟨F0,⟨hd1,ho⟩,hB⟩:=h.take hb;have hvv:v=E.Fq b:=by
   simp only[VR,Sl hw hb,B5]at hv;simpa using hv.2.2.2.symm
  subst hvv;obtain⟨F1,W,hp,mN⟩:=HJ (d:=min d (db+1)-1) (by omega) ho;have NQ:=hB.perm (AIS G hp);obtain⟨hle,Ql⟩:=NQ.share;refine⟨by omega,Nat.min_le_left _ _,_,F1,⟨hle,by simp,fun k B hk=> ?_,Ql⟩,mN⟩;by_cases ek:k=b
  ·subst ek
   rw[AH0 (AF9.1 hb).1]at hk;cases hk;exact .inl rfl
  ·rw[AHF (by omega)]at hk;exact .inr hk
 ·rename_i b off n
  split at e
  case h_2=>cases e
  rename_i q;split at e
  case h_2=>cases e
  rename_i db r z hb;simp only[AGV,AIh]at e;obtain⟨z',e1,rfl,rfl,rfl⟩:=e;obtain⟨e2,e3⟩:=Fh e1;subst e2;subst e3;obtain⟨F0,⟨hd1,ho⟩,hB⟩:=h.take hb;simp only[VR,Sl hw hb,B5]at hv;obtain⟨_,_,q',ys,a,len,cap,hg,hn,hh,rfl⟩:=hv;simp only[EY,AGL,AIM]at hg;obtain⟨rfl,hg⟩:=hg;obtain rfl:=AIe hg;simp only[AGL]at hh;rw[hh]at ho;obtain⟨db,rfl⟩:∃m,db=m+1:=⟨db-1,by omega⟩;obtain⟨A1,A2,hp0,ho0⟩:=sI ho hn;obtain⟨F1,W,hp,mN⟩:=HJ (d:=min d (db+1+1)-1) (by omega) ho0;have hB1:CD E w vw (bx.set b .dead) (A1++G):=by
   refine CD.drop (G':=A2) (hB.perm ?_);refine(AIS G hp0).trans ?_
   rw[AGq,AGq];exact AIZ _ AIa
  have NQ:=hB1.perm (AIS G hp);obtain⟨hle,Ql⟩:=NQ.share;refine⟨by omega,Nat.min_le_left _ _,_,F1,⟨hle,by simp,fun k B hk=> ?_,Ql⟩,mN⟩;by_cases ek:k=b
  ·subst ek
   rw[AH0 (AF9.1 hb).1]at hk;cases hk;exact .inl rfl
  ·rw[AHF (by omega)]at hk;exact .inr hk
 ·cases e
theorem TV{w:World}{vw:List Bx}:∀{r:Ty} {E:Env} {bx:List Bx} {G:AAU} {d:Nat} {l:List AV} {vs:List Value} {y:r.D} {Ls:List Bx} {d':Nat},CD E w vw bx G→DO bx vw→1≤d→
  YB E w vw l vs→cellsIn d r l bx=some (y,Ls,d')→1≤d'∧d'≤d∧ ∃E' F,El E w vw bx G E' Ls F∧Ow w E'.S (d'-1) r vs y F
 | .unit,E,bx,G,d,[],[],y,Ls,d',h,hw,hd,_,e=>by
  simp only[cellsIn,AGL,AIh]at e;obtain⟨_,rfl,rfl⟩:=e;exact⟨hd,AIi _,E,[],El.refl h,by simp only[Ow];exact⟨trivial,trivial⟩⟩
 | .cons c r,E,bx,G,d,x::l,v::vs,y,Ls,d',h,hw,hd,hv,e=>by
  simp only[cellsIn,AGs,AGV,AIh]at e;obtain⟨⟨y1,X8,d1⟩,e1,⟨y2,TX,d2⟩,e2,rfl,rfl,rfl⟩:=e;dsimp only at e2⊢;obtain⟨a1,a2,E1,F1,k1,o1⟩:=UD h hw hd hv.1 e1;have ju:=k1.le.keep (w:=w) (vw:=vw) h.st;obtain⟨b1,b2,E2,F2,k2,o2⟩:=TV (G:=F1++G) k1.boxes (hw.dQ k1) a1 (hv.2.imp fun _ _ h=>D_ ju h) e2;obtain⟨A,W,hp,o1'⟩:=HJ (d:=d'-1) (by omega) o1;have hB:=k2.boxes.perm (G':=(F2++A)++W++G) (by
   rw[AGq F2 A W,AGq F2];exact AIZ _ (AIS _ hp))
  obtain⟨hle,Ql⟩:=hB.share;refine⟨b1,AIx b2 a2,_,A++F2,⟨(k1.le.trans k2.le).trans hle,k2.len.trans k1.len,fun b B hb=>(k2.within b B hb).elim .inl (k1.within b B),Ql.perm (AIS _ AIa)⟩,?_⟩;simp only[Ow];refine⟨v,vs,A,F2,rfl,rfl,?_,?_⟩
  ·refine Cq (S:=fun b=>E1.S b∨b∈W) ?_ (fun _ _=>rfl) (fun _ _=>rfl) o1'
   intro c hc;exact hc.elim (fun h=> .inl (k2.le.S c h)) .inr
  ·refine Cq (S:=E2.S) ?_ (fun _ _=>rfl) (fun _ _=>rfl) o2
   intro c hc;exact .inl hc
 | .unit,_,_,_,_,_::_,_,_,_,_,_,_,_,_,e=>by simp[cellsIn]at e
 | .unit,_,_,_,_,[],_::_,_,_,_,_,_,_,hv,_=>hv.elim
 | .cons _ _,_,_,_,_,[],_,_,_,_,_,_,_,_,e=>by simp[cellsIn]at e
 | .cons _ _,_,_,_,_,_::_,[],_,_,_,_,_,_,hv,_=>hv.elim
 | .int _,_,_,_,_,_,_,_,_,_,_,_,_,_,e=>by simp[cellsIn]at e
 | .bool,_,_,_,_,_,_,_,_,_,_,_,_,_,e=>by simp[cellsIn]at e
 | .str,_,_,_,_,_,_,_,_,_,_,_,_,_,e=>by simp[cellsIn]at e
 | .sl _,_,_,_,_,_,_,_,_,_,_,_,_,_,e=>by simp[cellsIn]at e
theorem iM{E:Env}{w:World}{vw:List Bx}{x:AV}{v:Value}(h:VR E w vw x v)(hk:x.known=true):v.oneCell' =true∧v.cells= #[v]:=by
 have aux:∀{v:Value},isSlice v=true→v.oneCell' =true∧v.cells= #[v]:=by intro v h;cases v<;>simp_all[isSlice,Value.oneCell',Value.cells]
 have AJT:∀{v:Value},Uy v=true→v.oneCell' =true∧v.cells= #[v]:=by intro v h;cases v<;>simp_all[Uy,Value.oneCell',Value.cells]
 cases x with
 |v t y=>
  obtain⟨hs,hr⟩:=h;cases t<;>simp[Ty.scalar]at hs<;>simp only[Rd,AId,AJo]at hr<;>subst hr<;>exact⟨rfl,rfl⟩
 |sl s r y=>
  simp only[VR,Rd]at h;obtain⟨a,cap,h,_⟩:=h;simp only[AId,AJo]at h;subst h;exact⟨rfl,rfl⟩
 |nil=>simp only[VR]at h;subst h;exact⟨rfl,rfl⟩
 |ref b p=>exact aux h.1
 |VP b p off n=>exact aux h.1
 |FW b j=>rw[h.2];exact⟨rfl,rfl⟩
 |Gq b p i sz j=>exact AJT h.1
 |J4 s r y j=>obtain⟨bb,o,cs,rfl,_⟩:=h;exact⟨rfl,rfl⟩
 |fn f G6=>rw[h.2];exact⟨rfl,rfl⟩
 |gD f rows=>obtain⟨ps,rfl,_⟩:=h;exact⟨rfl,rfl⟩
 |lr=>simp only[VR]at h;subst h;exact⟨rfl,rfl⟩
 |undef=>simp[AV.known]at hk
theorem mg{E:Env}{w:World}{vw:List Bx}:∀{l:List AV} {vs:List Value},YB E w vw l vs→l.all AV.known=true→ ∀v∈vs,v.oneCell' =true
 |[],[],_,_=>by simp
 |x::l,v::vs,h,hk=>by
  simp only[AK_,AGx]at hk;intro u hu;rcases AIU.1 hu with rfl|hu
  ·exact(iM h.1 hk.1).1
  ·exact mg h.2 hk.2 u hu
theorem eN{E:Env}{w:World}{vw:List Bx}{x:XV}{v:Value}(h:XR E w vw x v)(hk:x.cells.all AV.known=true)(hn:x.cells≠[]):YB E w vw x.cells v.cells.toList∧ ∀u∈v.cells.toList,u.oneCell' =true:=by
 cases x with
 |c x=>
  have h':VR E w vw x v:=h;obtain⟨h1,h2⟩:=iM h' (by simpa[XV.cells]using hk);rw[h2];exact⟨⟨h',trivial⟩,by simpa using h1⟩
 |agg l=>
  obtain⟨vs,rfl,RH⟩:=h;exact⟨RH,mg RH hk⟩
 |Jy l=>simp[XV.cells]at hn
theorem jS{w:World}{vw:List Bx}{r:Ty}{E:Env}{bx:List Bx}{G:AAU}{d:Nat}{x:XV}{v:Value}{y:r.D}{Ls:List Bx}{d':Nat}(h:CD E w vw bx G)(hw:DO bx vw)(hd:1≤d)
  (hv:XR E w vw x v) (e:qt d r x bx=some (y,Ls,d')):1≤d'∧d'≤d∧ ∃E' F,El E w vw bx G E' Ls F∧Ow w E'.S (d'-1) r v.cells.toList y F:=by
 unfold qt at e;split at e
 ·rename_i l
  obtain⟨vs,rfl,RH⟩:=hv;exact TV h hw hd RH e
 ·rename_i x
  have VD:VR E w vw x v:=hv;have hk:x.known=true:=by cases x<;>simp_all[AV.known,Vx]
  rw[(iM VD hk).2];exact UD h hw hd VD e
 ·cases e
end Go.Fw
end
section
namespace Go.Fw
def Env.UP(E:Env)(n:Nat)(h:Value):Env:={ E with Fq:=fun k=>if k=n then h else E.Fq k }
def Env.WJ(E:Env)(n b:Nat):Env:={ E with Fc:=fun k=>if k=n then b else E.Fc k }
theorem Xe{E E1 E':Env}{w w':World}{vw X8 Ls:List Bx}{F:AAU}(k:El E w vw vw [] E1 X8 F)(st:∀c,E.S c→E.T c)(hlen:vw.length≤Ls.length)
  (Yc:∀b B,b<vw.length→Ls[b]? =some B→X8[b]? =some B) (iW:∀b,b<vw.length→E'.Fc b=E1.Fc b) (V1:∀b,b<vw.length→E'.Fq b=E1.Fq b) (hT:E'.T=E1.T) (hS:E'.S=E1.S)
  (hw:∀c,c<w.heap.size→c∉F→w'.heap[c]? =w.heap[c]?):Nk E w vw E' w' Ls:=by
 have hB:=k.boxes;obtain⟨Fs,⟨h1,h2⟩,h3⟩:=hB;simp only[AH7]at h3;have xC:∀c,E1.T c→w'.heap[c]? =w.heap[c]?:=fun c hc=>hw c (h3.W0 c hc) fun hf=>h3.free c (by simp[hf]) hc
 refine⟨hlen,fun b hb=>by rw[iW b hb,k.le.Fc],fun c hc=>by rw[hT];exact k.le.T c hc,fun c hc=>by rw[hS];exact k.le.S c hc,st,fun c hc=>xC c (k.le.T c hc),fun b d r rows hb e=> ?_⟩;have e1:=Yc b _ hb e;rcases k.within b _ e1 with e2|e2
 ·cases e2
 ·refine⟨d,rows,e2,fun p hp q ys hg=>⟨hp,⟨ys,hg,rfl⟩,fun h' hh=> ?_⟩⟩
  have hF:Fs[b]? =some (Fs[b]'(by have:=(AF9.1 e1).1;omega)):=AGI _;obtain⟨hd,ho⟩:=h2 b _ _ e1 hF;rw[V1 b hb];rw[←k.le.Fq]at hh;refine hI ho (fun c hc=>xC c (h3.st c hc)) (fun c hc=> ?_) hp hg hh;have W_:c∈Fs.flatten:=AIb.2 ⟨_,AH9 hF,hc⟩;exact hw c (h3.lt c (by simp[W_])) fun hf=>(AHW.1 h3.nodup).2.2 c W_ c hf rfl
structure Grown (w w':World):Prop where
 os:w'.os=w.os
 tape:w'.tape=w.tape
 output:w'.output=w.output
 size:w.heap.size≤w'.heap.size
theorem OO{E E1:Env}{σ:St}{a:Act}{w w':World}{X8:List Bx}{F F':AAU}(h:Rel E σ a w)(k:El E w σ.bx σ.bx [] E1 X8 F){v:Value}{d:Nat}{r:Ty}{rows:List r.D}(hd:1≤d)
  (ho:Ow w' E1.S d (.sl r) [v] rows F') (hF':∀c∈F',c∈F∨w.heap.size≤c) (nd:F'.Nodup) (Dl:∀c∈F',c<w'.heap.size) (hw:∀c,c<w.heap.size→c∉F→w'.heap[c]? =w.heap[c]?) (g:Grown w w'):
  let E':=E1.UP X8.length v
  Rel E' { σ with bx:=X8++[.sl d r rows] } a w'∧MV [] E σ.bx w E' (X8++[.sl d r rows]) w'∧XR E' w' (X8++[.sl d r rows]) (.c (.ref X8.length [])) v:=by
 intro E';have st:=h.bx.st;have hn:=k.len;have keep:Nk E w σ.bx E' w' (X8++[.sl d r rows]):=Xe k st (by simp[hn]) (fun b B hb e=>by
   rw[AG0 (by omega)]at e;exact e) (fun b _=>rfl) (fun b hb=>by simp[E',Env.UP];intro e;omega) rfl rfl hw
 have ju:Nk E1 w σ.bx E' w' (X8++[.sl d r rows]):=by
  have k':El E1 w σ.bx σ.bx [] E1 X8 F:=⟨Le.refl _,k.len,k.within,k.boxes⟩;exact Xe k' k.boxes.st (by simp[hn]) (fun b B hb e=>by
   rw[AG0 (by omega)]at e;exact e) (fun b _=>rfl) (fun b hb=>by simp[E',Env.UP];intro e;omega) rfl rfl hw
 obtain⟨Fs,⟨h1,h2⟩,h3⟩:=k.boxes;simp only[AH7]at h3;have xC:∀c,E1.T c→w'.heap[c]? =w.heap[c]?:=fun c hc=>hw c (h3.W0 c hc) fun hf=>h3.free c (by simp[hf]) hc
 have hF0:∀c∈Fs.flatten,w'.heap[c]? =w.heap[c]?:=fun c hc=>hw c (h3.lt c (by simp[hc])) fun hf=>(AHW.1 h3.nodup).2.2 c hc c hf rfl
 refine⟨⟨h.Jq,h.tm.imp fun _ _ hx=>Ku keep hx,?_⟩,?_,?_⟩
 ·refine⟨Fs++[F'],⟨by simp[h1],fun n B G hB hG=> ?_⟩,?_⟩
  ·by_cases jH:n<X8.length
   ·rw[AG0 jH]at hB
    rw[AG0 (by omega)]at hG;have:=h2 n B G hB hG;have hGw:∀c∈G,w'.heap[c]? =w.heap[c]?:=fun c hc=>hF0 c (AIb.2 ⟨G,AH9 hG,hc⟩)
    cases B with
    |mem cs=>
     obtain⟨rfl,arr,ty,fr,a1,a2,a3⟩:=this;exact⟨rfl,arr,ty,fr,(hGw (E1.Fc n) (by simp)).trans a1,a2,a3.imp fun _ _ hv=>D_ ju hv⟩
    |sl d0 r0 L9=>
     refine⟨this.1,?_⟩;have e0:E'.Fq n=E1.Fq n:=by simp[E',Env.UP];intro e;omega
     rw[e0];exact Cq (fun _ hc=>hc) (fun c hc=>xC c (h3.st c hc)) hGw this.2
    |dead=>exact this
   ·have m8:=(AF9.1 hB).1
    simp at m8;obtain rfl:n=X8.length:=by omega
    rw[AIC (by omega)]at hB hG;simp[h1]at hB hG;subst hB hG;refine⟨hd,?_⟩;have e0:E'.Fq X8.length=v:=by simp[E',Env.UP]
    rw[e0];exact ho
  ·simp only[AJ4,AI2,ALf,AH7]
   have nd0:=AHW.1 h3.nodup;refine⟨AHW.2 ⟨nd0.1,nd,fun x hx y hy e=> ?_⟩,fun c hc ht=> ?_,fun c hc=> ?_,h3.st,fun c hc=>AIm (h3.W0 c hc) g.size⟩
   ·subst e
    rcases hF' x hy with h|h
    ·exact nd0.2.2 x hx x h rfl
    ·have:=h3.lt x (by simp[hx]);omega
   ·rcases AHp.1 hc with hc|hc
    ·exact h3.free c (by simp[hc]) ht
    ·rcases hF' c hc with h|h
     ·exact h3.free c (by simp[h]) ht
     ·have:=h3.W0 c ht;omega
   ·rcases AHp.1 hc with hc|hc
    ·exact AIm (h3.lt c (by simp[hc])) g.size
    ·exact Dl c hc
 ·refine⟨⟨k.le.T,k.le.S,k.le.sb,k.le.nJ,fun c hc=>xC c (k.le.T c hc),g.os,g.tape,g.output,g.size⟩,by simp[hn],fun b hb=>⟨by show E1.Fc b=_;rw[k.le.Fc],?_⟩,fun b hb=> ?_,fun n B B' _ hB NQ nO=> ?_⟩
  ·have:E'.Fq b=E1.Fq b:=by simp[E',Env.UP];intro e;omega
   rw[this,k.le.Fq]
  ·have kq:=(AF9.1 hb).1
   rw[AG0 (by omega)];obtain⟨B,hB⟩:∃B,X8[b]? =some B:=⟨_,AGI (by omega)⟩;rcases k.within b B hB with e|e
   ·rw[hB,e]
   ·rw[hb]at e;rw[hB];exact e.symm
  ·have jH:=(AF9.1 hB).1
   rw[AG0 (by omega)]at NQ;rcases k.within n B' NQ with e|e
   ·exact absurd e nO
   rw[hB]at e;cases e;refine⟨PZ.refl nO,fun c hc=> ?_⟩;have hF:Fs[n]? =some (Fs[n]'(by have:=(AF9.1 NQ).1;omega)):=AGI _;have hR:=h2 n B _ NQ hF;have W7:kt E1 w n B c:=by
    cases B with
    |mem cs=>simp only[kt]at hc⊢;rw[k.le.Fc];exact hc
    |sl d r rows=>simp only[kt]at hc⊢;rw[k.le.Fq];exact hc
    |dead=>exact hc
   rcases Wa hR W7 with hs|hs
   ·exact xC c (h3.st c hs)
   ·exact hF0 c (AIb.2 ⟨_,AH9 hF,hs⟩)
 ·have e0:E'.Fq X8.length=v:=by simp[E',Env.UP]
  refine⟨?_,?_⟩
  ·have:=SE ho
   simp only[Rd]at this;obtain⟨_,_,e,_⟩:=this;simp only[AId,AJo]at e;rw[e];rfl
  ·have:(X8++[Bx.sl d r rows])[X8.length]? =some (.sl d r rows):=by simp
   rw[this];exact⟨by simp[CJ],⟨_,rfl⟩,by rw[e0,B5]⟩
theorem eo{E:Env}{σ:St}{a:Act}{w:World}(h:Rel E σ a w){cs:List AV}{arr:Array Value}(ty:TypeId)(hv:YB E w σ.bx cs arr.toList):
  let E':=E.WJ σ.bx.length w.heap.size
  let w':=w.alloc (.cells arr ty)
  Rel E' (σ.new (.mem cs)) a w'∧MV [] E σ.bx w E' (σ.new (.mem cs)).bx w'∧XR E' w' (σ.new (.mem cs)).bx (.c (.FW σ.bx.length 0)) (.pointer (some ⟨w.heap.size,0,none⟩)):=by
 intro E' w';have st:=h.bx.st;have hw:∀c,c<w.heap.size→c∉([]:AAU)→w'.heap[c]? =w.heap[c]?:=fun c hc _=>by
  show(w.heap.push (.cells arr ty))[c]? =_
  rw[Array.getElem?_push,AGU (by omega)]
 have hB0:=h.bx;have keep:Nk E w σ.bx E' w' (σ.bx++[.mem cs]):=Xe (El.refl hB0) st (by simp) (fun b B hb e=>by
   rw[AG0 (by omega)]at e;exact e) (fun b hb=>by simp[E',Env.WJ];intro e;omega) (fun b _=>rfl) rfl rfl hw
 obtain⟨Fs,⟨h1,h2⟩,h3⟩:=h.bx;simp only[AH7]at h3;have new:w'.heap[w.heap.size]? =some (.cells arr ty):=by
  show(w.heap.push (.cells arr ty))[w.heap.size]? =_
  simp
 refine⟨⟨h.Jq,h.tm.imp fun _ _ hx=>Ku keep hx,?_⟩,?_,?_⟩
 ·refine⟨Fs++[[w.heap.size]],⟨by simp[St.new,h1],fun n B G hB hG=> ?_⟩,?_⟩
  ·simp only[St.new]at hB
   by_cases jH:n<σ.bx.length
   ·rw[AG0 jH]at hB
    rw[AG0 (by omega)]at hG;have:=h2 n B G hB hG;have hGw:∀c∈G,w'.heap[c]? =w.heap[c]?:=fun c hc=>hw c (h3.lt c (by simp;exact⟨G,AH9 hG,hc⟩)) (by simp)
    have eb:E'.Fc n=E.Fc n:=by simp[E',Env.WJ];intro e;omega
    cases B with
    |mem cs0=>
     obtain⟨rfl,arr0,ty0,fr,a1,a2,a3⟩:=this;refine⟨by rw[eb],arr0,ty0,fr,?_,a2,a3.imp fun _ _ hv=>D_ keep hv⟩;rw[eb];exact(hGw (E.Fc n) (by simp)).trans a1
    |sl d0 r0 L9=>exact⟨this.1,Cq (fun _ hc=>hc) (fun c hc=>hw c (h3.W0 c (st c hc)) (by simp)) hGw this.2⟩
    |dead=>exact this
   ·have m8:=(AF9.1 hB).1
    simp at m8;obtain rfl:n=σ.bx.length:=by omega
    rw[AIC (by omega)]at hB hG;simp[h1]at hB hG;subst hB hG;have eb:E'.Fc σ.bx.length=w.heap.size:=by simp[E',Env.WJ]
    refine⟨by rw[eb],arr,ty,(0,0),by rw[eb];exact new,fun i _ h=>by omega,hv.imp fun _ _ hv=>D_ keep hv⟩
  ·simp only[AJ4,AI2,ALf,AH7]
   refine⟨AHW.2 ⟨h3.nodup,by simp,fun x hx y hy e=> ?_⟩,fun c hc ht=> ?_,fun c hc=> ?_,h3.st,fun c hc=> ?_⟩
   ·subst e
    simp at hy;have:=h3.lt x hx;omega
   ·rcases AHp.1 hc with hc|hc
    ·exact h3.free c hc ht
    ·simp at hc;have:=h3.W0 c ht;omega
   ·rcases AHp.1 hc with hc|hc
    ·have:=h3.lt c hc;simp[w'];omega
    ·simp at hc;simp[w'];omega
   ·have:=h3.W0 c hc;simp[w'];omega
 ·refine⟨⟨fun _ h=>h,fun _ h=>h,fun _ h=> .inl h,fun _ h=> .inl h,fun c hc=>hw c (h3.W0 c hc) (by simp),rfl,rfl,rfl,by simp[w']⟩,by simp[St.new],fun b hb=>⟨?_,rfl⟩,fun b hb=> ?_,fun n B B' _ hB NQ nO=> ?_⟩
  ·simp[E',Env.WJ];intro e;omega
  ·have kq:=(AF9.1 hb).1
   simp only[St.new];rw[AG0 kq];exact hb
  ·have jH:=(AF9.1 hB).1
   simp only[St.new]at NQ;rw[AG0 jH,hB]at NQ;cases NQ;refine⟨PZ.refl nO,fun c hc=> ?_⟩;have hF:Fs[n]? =some (Fs[n]'(by omega)):=AGI _;rcases Wa (h2 n B _ hB hF) hc with hs|hs
   ·exact hw c (h3.W0 c (st c hs)) (by simp)
   ·exact hw c (h3.lt c (AIb.2 ⟨_,AH9 hF,hs⟩)) (by simp)
 ·refine⟨by simp[St.new],?_⟩
  simp[E',Env.WJ]
end Go.Fw
end
section
namespace Go.Fw
theorem HC:∀r:Ty,(EA r).length=r.n
 | .cons c r=>by simp[EA,Ty.n,HC r]
 | .unit=>rfl
 | .int _=>rfl
 | .bool=>rfl
 | .str=>rfl
 | .sl _=>rfl
theorem Tv{E:Env}{w:World}{vw:List Bx}(t:Ty):VR E w vw (lG t) (zv t):=by
 cases t<;>first
  |exact VR.int _ _
  |exact VR.bool _
  |exact VR.str _
  |rfl
  |trivial
theorem Ss{E:Env}{w:World}{vw:List Bx}:∀r:Ty,YB E w vw (Ug r) (EA r)
 | .cons c r=>⟨Tv c,Ss r⟩
 | .unit=>trivial
 | .int k=>⟨Tv (.int k),trivial⟩
 | .bool=>⟨Tv .bool,trivial⟩
 | .str=>⟨Tv .str,trivial⟩
 | .sl r=>⟨Tv (.sl r),trivial⟩
theorem YE{w:World}{S:Nat→Prop}{d:Nat}:∀{r:Ty},r.iI=true→Ow w S d r (EA r) r.z []
 | .cons c r,h=>by
  simp only[Ty.iI,AGx]at h;simp only[Ow,EA];refine⟨_,_,[],[],rfl,rfl,?_,YE h.2⟩;cases c with
  |sl q=>exact dd
  |int k=>simp[Ow,zv,Ty.z]
  |bool=>simp[Ow,zv,Ty.z]
  |str=>simp[Ow,zv,Ty.z]
  |unit=>simp[Ty.cell]at h
  |cons _ _=>simp[Ty.cell]at h
 | .unit,_=>by simp[Ow,EA]
 | .int k,_=>by simp[Ow,EA,zv,Ty.z]
 | .bool,_=>by simp[Ow,EA,zv,Ty.z]
 | .str,_=>by simp[Ow,EA,zv,Ty.z]
 | .sl q,_=>dd
theorem Vr{n:Nat}:∀{css:List (List Value)} {ex:List Value} {i j:Nat} {cs:List Value},(∀c∈css,c.length=n)→css[i]? =some cs→j<n→(css.flatten++ex)[i*n+j]? =cs[j]?
 |[],_,_,_,_,_,h,_=>by simp at h
 |c::css,ex,0,j,cs,hl,h,hj=>by
  simp at h;subst h;have:=hl c (by simp);simp only[AI2,AGq,Nat.zero_mul,AJv];rw[AG0 (by omega)]
 |c::css,ex,i+1,j,cs,hl,h,hj=>by
  have hc:=hl c (by simp);have ih:=Vr (css:=css) (ex:=ex) (i:=i) (j:=j) (cs:=cs) (fun c' W7=>hl c' (AK8 _ W7)) (by simpa using h) hj;simp only[AI2,AGq];rw[AIC (by rw[AJ3];omega),←ih];congr 1;rw[AJ3,hc];omega
theorem bG{w:World}{b:Nat}{arr:Array Value}{ty:TypeId}{fr:ABD}(hb:w.heap[b]? =some (.cells arr ty fr)){n:Nat}{css:List (List Value)}{ex:List Value}(ha:arr.toList=css.flatten++ex)
  (hl:∀c∈css,c.length=n) {i:Nat} {cs:List Value} (h:css[i]? =some cs):Bp w b (i*n) cs:=by
 intro j v hj;have hjn:j<n:=by
  have:=(AF9.1 hj).1;rw[hl cs (AH9 h)]at this;exact this
 simp only[World.cell?,hb,AKK,AHU,AIk];rw[←Array.getElem?_toList,ha,Vr hl h hjn,hj]
theorem YX{w:World}{S:Nat→Prop}{d b cap:Nat}{r:Ty}{rows:List r.D}{arr:Array Value}{ty:TypeId}{fr:ABD}(hb:w.heap[b]? =some (.cells arr ty fr)){css:List (List Value)}{ex:List Value}
  (ha:arr.toList=css.flatten++ex) (hc:css.length=rows.length) (qd:rows.length≤cap) (LW:cap*r.n≤arr.size) (hu:mR fr (arr.size+mk r)) {Fs:List AAU} (hF:Fs.length=rows.length)
  (U_:∀(i:Nat) cs y G,css[i]? =some cs→rows[i]? =some y→Fs[i]? =some G→Ow w S d r cs y G):
  Ow w S (d+1) (.sl r) [.slice (some ⟨b,0,none⟩) rows.length cap] rows (b::Fs.flatten):=by
 have hl:∀c∈css,c.length=r.n:=by
  intro c W7;obtain⟨i,hi,rfl⟩:=AJE W7;exact Q8 (U_ i _ _ _ (AGI hi) (AGI (by omega)) (AGI (by omega)))
 simp only[Ow];refine⟨_,cap,rfl,qd,.inr ⟨b,0,arr,ty,fr,Fs,rfl,hb,by omega,hu,rfl,hF,fun i y G hy hG=> ?_⟩⟩;have hi:i<css.length:=by
  have:=(AF9.1 hy).1;omega
 refine⟨css[i],hl _ (AIN hi),?_,U_ i _ y G (AGI hi) hy hG⟩;rw[AJv];exact bG hb ha hl (AGI hi)
theorem aB(n:Nat):mR (0,0) n:=fun i _ h=>by omega
theorem LV{w:World}{o:Obj}{c:Nat}(h:c<w.heap.size):(w.heap.push o)[c]? =w.heap[c]?:=by
 rw[Array.getElem?_push,AGU (by omega)]
section
variable{Y:Type} {P:Program} {T:HE} (hT:DY P T) {o:Oper} {E:Env} {σ:St} {a:Act} {w:World} {k:K Y} {y:Y}
theorem rY(h:Rel E σ a w){t:TypeId}{x:Operand}(ho:o.op= .box t x)(hk:(σ.ev x).cells.all AV.known=true)(hn:(σ.ev x).cells≠[])(e:k (.c (.FW σ.bx.length 0)) (σ.new (.mem (σ.ev x).cells))=some y):
  IF P o E σ a w k y:=by
 obtain⟨h1,h2⟩:=eN (h.ev x) hk hn;obtain⟨r1,r2,r3⟩:=eo h t h1;refine⟨_,_,_,_,_,.inl ?_,r1,r3,r2.any,rfl,e⟩;simp only[execOp,ho,Instr.box,newVar,newRow,Sem.run_bind,run_newObj,Result.andThen_ok,Sem.run_pure];rfl
include hT
theorem row_zero{t:Nat}{r:Ty}(e:T.YN t=some r):∃i z,P.info? t=some i∧i.zero=some z∧z.cells.toList=EA r∧r.iI=true:=by
 unfold HE.YN at e;split at e
 ·rename_i ti Mu
  obtain⟨i,h1,_,_,h2⟩:=(hT t ti Mu).info;obtain⟨hg,z,h3,h4⟩:=h2 r e;exact⟨i,z,h1,h3,h4,hg⟩
 ·cases e
theorem lU(h:Rel E σ a w){t:TypeId}(ho:o.op= .alloc t){r:Ty}(hr:T.YN t=some r)(e:k (.c (.FW σ.bx.length 0)) (σ.new (.mem (Ug r)))=some y):IF P o E σ a w k y:=by
 obtain⟨i,z,h1,h2,h3,_⟩:=row_zero hT hr;obtain⟨r1,r2,r3⟩:=eo (arr:=z.cells) h t (by rw[h3];exact Ss r);refine⟨_,_,_,_,_,.inl ?_,r1,r3,r2.any,rfl,e⟩;simp only[execOp,ho,Instr.alloc,zeroValue,typeInfo,newVar,newRow,Sem.run_bind,run_program,Result.andThen_ok,h1,h2,run_newObj,Sem.run_pure];rfl
end
end Go.Fw
end
section
namespace Go.Fw
def Dv(arr:Array Value):Nat→List Value→Array Value
 |_,[]=>arr
 |o,c::l=>Dv (arr.setIfInBounds o c) (o+1) l
theorem Hg:∀(l:List Value) (o:Nat) (arr:Array Value),(Dv arr o l).size=arr.size
 |[],_,_=>rfl
 |c::l,o,arr=>by simp[Dv,Hg l]
theorem eM(off:Nat):∀(l:List Value) (k:Nat) (arr:Array Value),(l.zipIdx k).foldl (fun cs (q:Value×Nat)=>cs.setIfInBounds (off+q.2) q.1) arr=Dv arr (off+k) l
 |[],_,_=>rfl
 |c::l,k,arr=>by
  simp only[List.zipIdx_cons,List.foldl_cons,Dv];rw[eM off l (k+1)];rfl
theorem Rc{E:Env}{w:World}{vw:List Bx}:∀{xs:List AV} {vs:List Value} {cs VB:List AV} {arr:Array Value} {o:Nat},YB E w vw cs arr.toList→YB E w vw xs vs→Rl cs o xs=some VB→
  YB E w vw VB (Dv arr o vs).toList∧o+xs.length≤cs.length∨(xs=[]∧VB=cs)
 |[],[],cs,VB,arr,o,h,_,e=>by simp only[Rl,AGL]at e;exact .inr ⟨rfl,e.symm⟩
 |x::xs,v::vs,cs,VB,arr,o,h,hx,e=>by
  simp only[Rl]at e;split at e
  case isFalse=>cases e
  rename_i ho;have h1:YB E w vw (cs.set o x) (arr.setIfInBounds o v).toList:=by
   rw[Array.toList_setIfInBounds];exact Bj.set h hx.1
  rcases Rc h1 hx.2 e with⟨h2,h3⟩|⟨rfl,rfl⟩
  ·refine .inl ⟨h2,?_⟩
   simp at h3⊢;omega
  ·cases vs with
   |nil=>exact .inl ⟨h1,by simp;omega⟩
   |cons _ _=>exact hx.2.elim
 |[],_::_,_,_,_,_,_,hx,_=>hx.elim
 |_::_,[],_,_,_,_,_,hx,_=>hx.elim
section
variable{Y:Type} {P:Program} {T:HE} (hT:DY P T) {o:Oper} {E:Env} {σ:St} {a:Act} {w:World} {k:K Y} {y:Y}
def mL(E:Env)(w:World)(vw:List Bx)(l:List (Nat×XV))(m:List (Nat×Value)):Prop:=Bj (fun x v=>x.1=v.1∧XR E w vw x.2 v.2) l m
theorem eL(h:Rel E σ a w)(ps:Array (Nat×Operand)):mL E w σ.bx (ps.toList.map fun q=>(q.1,σ.ev q.2)) (ps.map fun(i,x)=>(i,a.eval x)).toList:=by
 rw[Array.toList_map]
 generalize ps.toList=l
 induction l with
 |nil=>trivial
 |cons q l ih=>exact⟨⟨rfl,h.ev q.2⟩,ih⟩
theorem gP{place:Nat→Option ABD}{i off size:Nat}(hp:place i=some (off,size)){cells:Array Value}{v:Value}{rest:List (Nat×Value)}(h1:v.cells.size=size)(h2:off+v.cells.size≤cells.size):
  Instr.fill place cells ((i,v)::rest)=Instr.fill place (Dv cells off v.cells.toList) rest:=by
 have e:v.cells.zipIdx.foldl (fun cs (q:Value×Nat)=>cs.setIfInBounds (off+q.2) q.1) cells=Dv cells off v.cells.toList:=by
  rw[←Array.foldl_toList];have:(v.cells.zipIdx).toList=v.cells.toList.zipIdx:=by simp
  rw[this];exact eM off v.cells.toList 0 cells
 conv=>lhs;unfold Instr.fill
 simp only[hp];rw[AGU (by simp;omega)];exact congrArg (fun c=>Instr.fill place c rest) e
theorem cV{α β:Type}{f:α→Option β}{g:α→β}:∀{l:List α},(∀x∈l,f x=some (g x))→l.mapM f=some (l.map g)
 |[],_=>rfl
 |x::l,h=>by
  simp only[ALx,h x (by simp),cV (l:=l) (g:=g) (fun y hy=>h y (by simp[hy]))];rfl
include hT
theorem UZ{fs:List ABD}{vw:List Bx}:∀{parts:List (Nat×XV)} {vals:List (Nat×Value)} {cs VB:List AV} {arr:Array Value},mL E w vw parts vals→YB E w vw cs arr.toList→XF T fs cs parts=some VB→
  ∃Jf:Array Value,Instr.fill (fun i=>(fs[i]?).bind fun q=>((P.info? q.2).map fun i=>(q.1,i.size))) arr vals=some Jf∧YB E w vw VB Jf.toList
 |[],[],cs,VB,arr,_,h,e=>by
  simp only[XF,AGL]at e;subst e;exact⟨arr,rfl,h⟩
 |(i,x)::ps,(j,v)::vs,cs,VB,arr,hp,h,e=>by
  obtain⟨⟨sR,hx⟩,hp⟩:=hp;simp only at sR hx;subst sR;simp only[XF]at e;split at e
  case h_2=>cases e
  rename_i off u hf;split at e
  case h_2=>cases e
  rename_i ti Mu;split at e
  case isFalse=>cases e
  rename_i hc;obtain⟨c1,c2,c3⟩:=hc;simp only[AGs]at e;obtain⟨cs1,e1,e2⟩:=e;have YU:x.cells≠[]:=by intro h0;rw[h0]at c1;simp at c1;omega
  obtain⟨x1,x2⟩:=eN hx c3 YU;rcases Rc h x1 e1 with⟨s1,s2⟩|⟨s1,_⟩
  ·have LW:v.cells.size=ti.size:=by
    have:=x1.len;rw[←c1,this];simp
   have hlen:=h.len;obtain⟨Jf,f1,f2⟩:=UZ hp s1 e2;refine⟨Jf,?_,f2⟩;have AD8:(fun i=>(fs[i]?).bind fun q=>((P.info? q.2).map fun i=>(q.1,i.size))) i=some (off,ti.size):=by
    have:=DY.size hT Mu;cases hq:P.info? u with
    |none=>simp[hq]at this
    |some iu=>simp[hq]at this;simp[hf,hq,this]
   rw[gP (i:=i) (off:=off) (size:=ti.size) AD8 LW (by simp at hlen;omega)];exact f1
  ·exact absurd s1 YU
 |[],_::_,_,_,_,hp,_,_=>hp.elim
 |_::_,[],_,_,_,hp,_,_=>hp.elim
theorem k_(h:Rel E σ a w){t:TypeId}{ps:Array (Nat×Operand)}(ho:o.op= .build t ps){s b:Nat}{fs:List ABD}{rw:Option Ty}(Mu:T.get t=some ⟨s,b,.st fs,rw⟩){r:Ty}(hr:T.YN t=some r)
  {cs:List AV} (hb:XF T fs (Ug r) (ps.toList.map fun q=>(q.1,σ.ev q.2))=some cs) (e:k (.agg cs) σ=some y):IF P o E σ a w k y:=by
 obtain⟨i,z,h1,h2,h3,_⟩:=row_zero hT hr;obtain⟨fields,hu,hfs,LW⟩:=uB hT Mu;obtain⟨Jf,f1,f2⟩:=UZ hT (eL h ps) (arr:=z.cells) (by rw[h3];exact Ss r) hb;refine IF.same h (v:= .agg Jf) (x:= .agg cs) ?_ ⟨Jf,rfl,f2⟩ e
 have hb:P.built t (ps.map fun(i,x)=>(i,a.eval x)).toList=some Jf:=by
  unfold Program.built;simp only[h1,hu,h2];have hm:fields.toList.mapM (fun f=>(P.info? f.type).map fun i=>(f.offset,i.size))=some (fields.toList.map fun f=>(f.offset,((P.info? f.type).map (·.size)).getD 0)):=by
   refine cV fun f hf=> ?_
   obtain⟨i',Dh,_⟩:=LW f hf;simp[Dh]
  simp only[hm];rw[←f1];congr 1;funext n;subst hfs;simp only[List.getElem?_toArray,AIg];cases hn:fields.toList[n]? with
  |none=>simp
  |some f=>
   obtain⟨i',Dh,_⟩:=LW f (AH9 hn);simp[Dh]
 have:=run_build (P:=P) w t (ps.map fun(i,x)=>(i,a.eval x)) Jf hb;simp only[execOp,ho,Sem.run_bind,this,Result.andThen_ok,Sem.run_pure]
end
end Go.Fw
end
section
namespace Go.Fw
theorem wrap_small{n:Int}(h0:0≤n)(h1:n≤(DE:Int)):IntKind.i64.wrap n=n:=by
 simp only[DE]at h1;unfold IntKind.wrap;simp only[IntKind.bits,IntKind.signed];have e:n%(2^64:Int)=n:=Int.emod_eq_of_lt h0 (by omega);simp only[e];rw[AGU (by simp;omega)]
theorem DW{m:Nat}{zl:List Value}:((List.replicate m zl).flatten).length=m*zl.length:=by
 induction m with
 |zero=>simp
 |succ m ih=>simp only[ALR,AI2,AHw,ih,ALm];omega
theorem Jc{zl:List Value}:∀{m i:Nat},i<m*zl.length→((List.replicate m zl).flatten)[i]? =zl[i%zl.length]?
 |0,i,h=>by simp at h
 |m+1,i,h=>by
  simp only[ALR,AI2];by_cases hi:i<zl.length
  ·rw[AG0 hi,ALo hi]
  ·have Dh:zl.length≤i:=by omega
   rw[AIC Dh,Jc (by rw[ALm]at h;omega),←Nat.mod_eq_sub_mod Dh]
theorem Uk{zero:Array Value}{zl:List Value}(hz:zero.toList=zl)(m:Nat)(h0:zl≠[]):((Array.range (m*zl.length)).map (fun i=>zero[i%zero.size]!)).toList=(List.replicate m zl).flatten:=by
 have hs:zero.size=zl.length:=by rw[←hz];simp
 have AET:0<zl.length:=ALt.2 h0;apply ALM;intro i;by_cases hi:i<m*zl.length
 ·rw[Jc hi]
  have AFq:i%zl.length<zl.length:=Nat.mod_lt _ AET;simp only[Array.toList_map,Array.toList_range,AIg,List.getElem?_range hi,Option.map_some,hs];rw[AGI AFq];congr 1;subst hz;have T9:i%zero.size<zero.size:=by rw[hs];exact AFq
  simp[T9,←hs]
 ·have h1:((Array.range (m*zl.length)).map (fun i=>zero[i%zero.size]!)).toList.length≤i:=by simp;omega
  rw[AKQ h1,AKQ (by rw[DW];omega)]
section
variable{Y:Type} {P:Program} {T:HE} (hT:DY P T) {o:Oper} {E:Env} {σ:St} {a:Act} {w:World} {k:K Y} {y:Y}
include hT
theorem WY{e:Nat}{ti:TI}{r:Ty}(he:T.get e=some ti)(hr:ti.row=some r):∃i z,P.info? e=some i∧i.size=ti.size∧i.bytes=ti.bytes∧i.zero=some z∧z.cells.toList=EA r∧r.iI=true:=by
 obtain⟨i,h1,h2,h3,h4⟩:=(hT e ti he).info;obtain⟨hg,z,h5,h6⟩:=h4 r hr;exact⟨i,z,h1,h2,h3,h5,h6,hg⟩
theorem nX(h:Rel E σ a w){t:TypeId}{l c:Operand}(ho:o.op= .makeSlice t l c)(e:gk T t σ (σ.ev l) (σ.ev c) k=some y):IF P o E σ a w k y:=by
 unfold gk at e;split at e
 case h_2=>cases e
 rename_i el n m hd hl hc;split at e
 case h_2=>cases e
 rename_i r hr;split at e
 case isFalse=>cases e
 rename_i T8;split at e
 case isFalse=>cases e
 rename_i hb;obtain⟨b0,b1,b2⟩:=hb;obtain⟨el',ti,hu,Mu,hs,hby,hrow⟩:=KM hT T8;obtain⟨i,z,i1,i2,i3,i4,i5,hg⟩:=WY hT Mu hrow;obtain⟨κ1,e1⟩:=GB hl (h.ev l);obtain⟨κ2,e2⟩:=GB hc (h.ev c);have w1:=wrap_small b0 (by omega);have w2:=wrap_small (n:=m) (by omega) b2
 let arr:Array Value:=(Array.range (m.toNat*r.n)).map (fun j=>(if m.toNat*r.n=0 then #[]else z.cells)[j%(if m.toNat*r.n=0 then(#[]:Array Value)else z.cells).size]!)
 have XQ:arr.toList=(List.replicate n.toNat (EA r)).flatten++(List.replicate (m.toNat-n.toNat) (EA r)).flatten:=by
  have hz:=HC r;have split:(List.replicate n.toNat (EA r)).flatten++(List.replicate (m.toNat-n.toNat) (EA r)).flatten=(List.replicate m.toNat (EA r)).flatten:=by
   rw[←AJ4,List.replicate_append_replicate];congr 2;omega
  rw[split];by_cases h0:m.toNat*r.n=0
  ·have:arr.toList=[]:=by simp[arr,h0]
   rw[this]
   symm
   rw[←ALD,DW,hz,h0]
  ·have YU:EA r≠[]:=by
    intro he;rw[he]at hz;simp at hz;rw[←hz]at h0;simp at h0
   have:=Uk i5 m.toNat YU;rw[hz]at this;simp only[arr,AGU h0];exact this
 let w':=w.alloc (.cells arr el')
 have new:w'.heap[w.heap.size]? =some (.cells arr el'):=by
  show(w.heap.push (.cells arr el'))[w.heap.size]? =_
  simp
 have AAN:arr.size=m.toNat*r.n:=by simp[arr]
 have how:Ow w' E.S (8+1) (.sl r) [.slice (some ⟨w.heap.size,0,none⟩) (List.replicate n.toNat r.z).length m.toNat] (List.replicate n.toNat r.z) (w.heap.size::(List.replicate n.toNat ([]:AAU)).flatten):=by
  refine YX new XQ (by simp) (by simp;omega) (by omega) (aB _) (by simp) fun i cs y G h1 h2 h3=> ?_
  simp only[ALS]at h1 h2 h3;split at h1
  ·rename_i hi
   rw[AGH hi]at h2 h3;cases h1;cases h2;cases h3;exact YE hg
  ·cases h1
 have hF:(List.replicate n.toNat ([]:AAU)).flatten=[]:=by simp
 rw[hF]at how;simp only[AKR]at how;obtain⟨r1,r2,r3⟩:=OO h (El.refl h.bx) (w':=w') (d:=9) (by omega) how (by simp) (by simp) (by simp[w']) (fun c hc _=>LV hc) ⟨rfl,rfl,rfl,by simp[w']⟩;refine⟨_,_,_,_,_,.inl ?_,r1,r3,r2.any,rfl,e⟩;have AKV:(i.bytes:Int)*m≤2^48:=by
  have h1:(i.bytes:Int)≤512:=by omega
  have h2:(i.bytes:Int)*m≤512*m:=Int.mul_le_mul_of_nonneg_right h1 (by omega);simp only[DE]at b2;omega
 simp only[execOp,ho,Instr.makeSlice,e1,e2,Sem.run_bind,Aw hu,Result.andThen_ok,asInt,asIntOf,Sem.run_pure,typeInfo,run_program,i1,w1,w2];rw[AGU (by simp;omega)];by_cases h0:m.toNat*r.n=0
 ·have e3:arr=(Array.range (m.toNat*r.n)).map (fun j=>(#[]:Array Value)[j%(#[]:Array Value).size]!):=by simp only[arr,AGH h0]
  simp only[Sem.run_bind,run_askRoom,Result.andThen_ok,sizeOf,typeInfo,run_program,i1,Sem.run_pure,i2,hs,h0,AKA,newRow,run_newObj];simp only[w',e3,h0];rfl
 ·have e3:arr=(Array.range (m.toNat*r.n)).map (fun j=>z.cells[j%z.cells.size]!):=by simp only[arr,AGU h0]
  simp only[Sem.run_bind,run_askRoom,Result.andThen_ok,sizeOf,typeInfo,run_program,i1,Sem.run_pure,i2,hs,h0,AIk,newRow,run_newObj,zeroValue,i4];simp only[w',e3];rfl
end
end Go.Fw
end
section
namespace Go.Fw
theorem YZ{w:World}{B S:Nat→Prop}{d:Nat}:∀{r:Ty} {cs:List Value} {x:r.D},r.flat=true→Rd w B r cs x→Ow w S d r cs x []
 | .cons c r,cs,x,h,hr=>by
  simp only[Ty.flat,AGx]at h;simp only[Rd]at hr;obtain⟨v,l,rfl,h1,h2⟩:=hr;simp only[Ow];exact⟨v,l,[],[],rfl,rfl,YZ h.1 h1,YZ h.2 h2⟩
 | .unit,_,_,_,hr=>by simp only[Rd]at hr;simp[Ow,hr]
 | .int k,_,_,_,hr=>by simp only[Rd]at hr;simp[Ow,hr]
 | .bool,_,_,_,hr=>by simp only[Rd]at hr;simp[Ow,hr]
 | .str,_,_,_,hr=>by simp only[Rd]at hr;simp[Ow,hr]
 | .sl q,_,_,h,_=>by simp[Ty.flat]at h
theorem ZJ{P:Program}{w:World}{b o:Nat}{cs:List Value}(h:Bp w b o cs):(loadCells ⟨b,o,none⟩ cs.length).run P w= .ok cs.toArray w:=
 run_loadCells_list (P:=P) w ⟨b,o,none⟩ cs fun j v hv=>by rw[Addr.add_eq];exact h j v hv
theorem RD{P:Program}{w:World}(a:Addr):(loadCells a 0).run P w= .ok #[] w:=by
 simpa using run_loadCells_list (P:=P) w a [] (by simp)
theorem Rg{l:List Value}:(l.map fun v=>[v]).flatten=l:=by
 induction l with
 |nil=>rfl
 |cons a l ih=>simp[ih]
theorem jP{w:World}{B:Nat→Prop}{r:Ty}{b o:Nat}{ys:List r.D}(h:∀(i:Nat) (y:r.D),ys[i]? =some y→ ∃cs,cs.length=r.n∧Bp w b (o+i*r.n) cs∧Rd w B r cs y):
  ∃css:List (List Value),css.length=ys.length∧(∀c∈css,c.length=r.n)∧Bp w b o css.flatten∧ ∀(i:Nat) cs y,css[i]? =some cs→ys[i]? =some y→Rd w B r cs y:=by
 induction ys generalizing o with
 |nil=>exact⟨[],rfl,by simp,fun _ _ h=>by simp at h,fun i cs y h=>by simp at h⟩
 |cons y ys ih=>
  obtain⟨cs,c1,c2,c3⟩:=h 0 y rfl;obtain⟨css,d1,d2,d3,d4⟩:=ih (o:=o+r.n) (fun i z hz=>by
   obtain⟨cs,e1,e2,e3⟩:=h (i+1) z (by simpa using hz);refine⟨cs,e1,?_,e3⟩;rw[AJ3,ALi]at e2
   rwa [show o+r.n+i*r.n=o+(i*r.n+r.n)by omega])
  refine⟨cs::css,by simp[d1],by simpa using⟨c1,d2⟩,?_,?_⟩
  ·intro j v hj
   simp only[AI2]at hj;by_cases nN:j<cs.length
   ·rw[AG0 nN]at hj
    have:=c2 j v hj;simpa using this
   ·rw[AIC (by omega)]at hj
    have:=d3 _ v hj
    rwa [show o+r.n+(j-cs.length)=o+j by omega]at this
  ·intro i VB z h1 h2
   cases i with
   |zero=>simp at h1 h2;subst h1 h2;exact c3
   |succ i=>exact d4 i VB z (by simpa using h1) (by simpa using h2)
theorem Bp.append{w:World}{b o:Nat}{l m:List Value}(h:Bp w b o l)(k:Bp w b (o+l.length) m):Bp w b o (l++m):=by
 intro j v hj;by_cases nN:j<l.length
 ·rw[AG0 nN]at hj
  exact h j v hj
 ·rw[AIC (by omega)]at hj
  have:=k _ v hj
  rwa [show o+l.length+(j-l.length)=o+j by omega]at this
section
variable{Y:Type} {P:Program} {T:HE} (hT:DY P T) {o:Oper} {E:Env} {σ:St} {a:Act} {w:World} {k:K Y} {y:Y}
theorem GN(hT:DY P T){t:Nat}{d:TD}(e:(T.get t).map TI.desc=some d):Xb P t d:=by
 simp only[AGV]at e;obtain⟨ti,h1,rfl⟩:=e;exact(hT t ti h1).qH
theorem cy{src dst e:Nat}(hs:P.underlying src=some (.slice e))(he:P.underlying e=some (.int .u8))(hd:P.underlying dst=some .string){x:Value}{l:AAD}{B:Nat→Prop}
  (h:Rd w B (.sl (.int .u8)) [x] l):(convert src dst x).run P w= .ok (.string ⟨(l.map fun n:Int=>UInt8.ofNat n.toNat).toArray⟩) w:=by
 simp only[Rd]at h;obtain⟨a,cap,hx,hle,h⟩:=h;simp only[AId,AJo]at hx;subst hx;rcases h with h|⟨b,o,rfl,_,h⟩
 ·obtain rfl:=AIV h
  cases a with
  |none=>exact run_convert_bytes_nil w src e hs he _ _ dst hd
  |some a=>
   rw[run_convert_bytes_string w src dst e _ _ cap hs he hd];have:=_root_.Go.run_bytesToString (P:=P) w a 0 cap [] (by simpa using RD (P:=P) (w:=w) a);simp only[AIT]at*;rw[this];rfl
 ·refine run_convert_bytes_arg w src e hs he b o _ cap l rfl (fun i hi=> ?_) dst hd
  obtain⟨cs,c1,c2,c3⟩:=h i _ (AGI hi);subst c3;have:=c2 0 _ rfl;simp only[Ty.n,Nat.mul_one,AK1]at this;rw[this];simp[List.getD,hi]
include hT in
theorem nn(h:Rel E σ a w){src dst:Nat}{x:Operand}(ho:o.op= .convert src dst x)(e:gj T src dst σ (σ.ev x) k=some y):IF P o E σ a w k y:=by
 have hx:=h.ev x;unfold gj at e;split at e
 ·rename_i κ0 κ j n hs hd hv
  have h1:=GN hT hs;have h2:=GN hT hd;rw[hv]at hx;have VD:=UY (E:=E) (w:=w) (vw:=σ.bx) hx;refine IF.same h (v:= .int κ (κ.wrap n)) (x:= .c (.v (.int κ) (κ.wrap n))) ?_ (VR.int (E:=E) (vw:=σ.bx) _ _) e
  simp only[Xb]at h1 h2;simp only[execOp,ho,VD,convert,Sem.run_bind,Aw h1,Aw h2,Result.andThen_ok,Conv.intToInt,Sem.run_pure]
 ·rename_i s hs hd hv
  have h1:=GN hT hs;have h2:=GN hT hd;rw[hv]at hx;have VD:=RS (E:=E) (w:=w) (vw:=σ.bx) hx;refine IF.same h (v:= .string ⟨s.toArray⟩) (x:= .c (.v .str s)) ?_ (VR.str (E:=E) (vw:=σ.bx) _) e
  simp only[Xb]at h1 h2;simp only[execOp,ho,VD,convert,Sem.run_bind,Aw h1,Aw h2,Result.andThen_ok,Sem.run_pure]
 ·rename_i el s hs hd hv
  have h1:=GN hT hs;have h2:=GN hT hd;rw[hv]at hx;have VD:=RS (E:=E) (w:=w) (vw:=σ.bx) hx;split at e
  case h_2=>cases e
  rename_i T8;have h3:=GN hT T8;split at e
  case isFalse=>cases e
  rename_i ba;simp only[Xb]at h1 h2 h3
  let S0:ByteArray:=⟨s.toArray⟩
  have LW:S0.size=s.length:=by simp[S0,ByteArray.size]
  have fq:=Lib.run_convert_string_bytes (P:=P) w src dst el S0 h1 h2 h3;have qd:s.length≤grownCap w S0.size 0 el:=by rw[LW];exact grownCap_ge _ _ _ _
  have new:=Lib.bytesWorld_at_new w el S0;have XQ:(Lib.bytesCells w el S0).toList=(s.map fun c=>[Value.int .u8 (c.toNat:Int)]).flatten++List.replicate (grownCap w S0.size 0 el-S0.size) (.int .u8 0):=by
   have:(s.map fun c=>[Value.int .u8 (c.toNat:Int)]).flatten=s.map fun c=>Value.int .u8 (c.toNat:Int):=by
    have:=Rg (l:=s.map fun c=>Value.int .u8 (c.toNat:Int));simpa[ALX,Function.comp_def]using this
   rw[this];simp[Lib.bytesCells,S0]
  have AAN:(Lib.bytesCells w el S0).size=grownCap w S0.size 0 el:=by
   rw[←ALT,XQ];have:((s.map fun c=>[Value.int .u8 (c.toNat:Int)]).flatten).length=s.length:=by
    have:=Rg (l:=s.map fun c=>Value.int .u8 (c.toNat:Int));rw[ALX]at this;have e2:(s.map fun c=>[Value.int .u8 (c.toNat:Int)])=s.map ((fun v=>[v])∘fun c=>Value.int .u8 (c.toNat:Int)):=rfl;rw[e2,this];simp
   rw[AHw,this,AKR];omega
  have how:Ow (Lib.bytesWorld w el S0) E.S (8+1) (.sl (.int .u8)) [.slice (some ⟨w.heap.size,0,none⟩) (s.map fun c=>(c.toNat:Int)).length (grownCap w S0.size 0 el)] (s.map fun c=>(c.toNat:Int))
    (w.heap.size::(List.replicate s.length ([]:AAU)).flatten):=by
   refine YX (css:=s.map fun c=>[Value.int .u8 (c.toNat:Int)]) new XQ (by simp) (by simpa using qd) (by simp[Ty.n];omega) (fun i hi hh=>by simp only[mk]at hi;omega) (by simp) fun i cs y G q1 q2 q3=> ?_
   simp only[AIg,AGV]at q1 q2;obtain⟨c1,z1,rfl⟩:=q1;obtain⟨c2,z2,rfl⟩:=q2;rw[z1]at z2;cases z2;have:G=[]:=AJN (AH9 q3);subst this;simp[Ow]
  have hF:(List.replicate s.length ([]:AAU)).flatten=[]:=by simp
  rw[hF]at how;obtain⟨r1,r2,r3⟩:=OO h (El.refl h.bx) (w':=Lib.bytesWorld w el S0) (d:=9) (by omega) how (by simp) (by simp) (by simp[Lib.bytesWorld_size]) (fun c hc _=>Lib.bytesWorld_at_old w el S0 c hc)
   ⟨by simp[Lib.bytesWorld,World.freeze]<;>rfl,by simp[Lib.bytesWorld,World.freeze]<;>rfl,by simp[Lib.bytesWorld,World.freeze]<;>rfl,by rw[Lib.bytesWorld_size];omega⟩
  refine⟨_,_,_,_,_,.inl ?_,r1,r3,r2.any,rfl,e⟩;simp only[execOp,ho,VD,Sem.run_bind];have e5:=fq;simp only[S0]at e5;rw[e5];simp only[Result.andThen_ok,Sem.run_pure,ALY];rfl
 ·rename_i el z hs hd hv
  have h1:=GN hT hs;have h2:=GN hT hd;rw[hv]at hx;split at e
  case h_2=>cases e
  rename_i l T8 hl;have h3:=GN hT T8;simp only[Xb]at h1 h2 h3;obtain⟨Fs,hB,hS⟩:=h.bx;have Ro:=O2 (DO.refl σ.bx) hB hS.st hx hl;have hr:=cy (P:=P) h1 h3 h2 Ro;refine IF.same h (v:= .string ⟨(l.map fun n:Int=>UInt8.ofNat n.toNat).toArray⟩) (x:= .c (.v .str (l.map fun n:Int=>UInt8.ofNat n.toNat))) ?_ (VR.str (E:=E) (vw:=σ.bx) _) e
  simp only[execOp,ho,Sem.run_bind,hr,Result.andThen_ok,Sem.run_pure]
 ·cases e
end
end Go.Fw
end
section
namespace Go.Fw
theorem U0:∀(l:List Value) (o:Nat) (arr:Array Value) (p q:List Value),p.length=o→(∃m:List Value,m.length=l.length∧arr.toList=p++m++q)→(Dv arr o l).toList=p++l++q
 |[],o,arr,p,q,hp,⟨m,hm,h⟩=>by
  have:m=[]:=AIV (by simpa using hm);subst this;simpa[Dv]using h
 |c::l,o,arr,p,q,hp,⟨m,hm,h⟩=>by
  cases m with
  |nil=>simp at hm
  |cons b m=>
   simp only[Dv];have:=U0 l (o+1) (arr.setIfInBounds o c) (p++[c]) q (by simp[hp]) ⟨m,by simpa using hm,by
    rw[Array.toList_setIfInBounds,h];subst hp;simp⟩
   rw[this];simp
theorem El.more{E E1 E2:Env}{w:World}{vw bx X8 TX:List Bx}{G F1 F2 A W:AAU}(k1:El E w vw bx G E1 X8 F1)(k2:El E1 w vw X8 (F1++G) E2 TX F2)(hp:F1.Perm (A++W)):
  let E3:Env:={ E2 with S:=fun c=>E2.S c∨c∈W,T:=fun c=>E2.T c∨c∈W }
  El E w vw bx G E3 TX (A++F2):=by
 intro E3;have hB:=k2.boxes.perm (G':=(F2++A)++W++G) (by
  rw[AGq F2 A W,AGq F2];exact AIZ _ (AIS _ hp))
 obtain⟨hle,Ql⟩:=hB.share;exact⟨(k1.le.trans k2.le).trans hle,k2.len.trans k1.len,fun b B hb=>(k2.within b B hb).elim .inl (k1.within b B),Ql.perm (AIS _ AIa)⟩
theorem S7{w:World}{vw:List Bx}{r:Ty}(hg:r.iI=true):∀{n i:Nat} {parts:List (Nat×XV)} {vals:List (Nat×Value)} {E:Env} {bx:List Bx} {G:AAU} {d:Nat} {rows:List r.D} {Ls:List Bx} {d':Nat},
  CD E w vw bx G→DO bx vw→1≤d→mL E w vw parts vals→Sp r i n parts bx d=some (rows,Ls,d')→1≤d'∧d'≤d∧rows.length=n∧ ∃(E':Env) (Fs:List AAU) (css:List (List Value)),
   El E w vw bx G E' Ls Fs.flatten∧css.length=n∧Fs.length=n∧(∀(k:Nat) cs y G,css[k]? =some cs→rows[k]? =some y→Fs[k]? =some G→Ow w E'.S (d'-1) r cs y G)∧
   ∀(pre:List (List Value)) (arr:Array Value),pre.length=i→(∀c∈pre,c.length=r.n)→arr.toList=pre.flatten++(List.replicate n (EA r)).flatten→
    ∃Jf,Instr.fill (fun i=>some (i*r.n,r.n)) arr vals=some Jf∧Jf.toList=pre.flatten++css.flatten
 |0,i,[],[],E,bx,G,d,rows,Ls,d',h,hw,hd,hp,e=>by
  simp only[Sp,AGL,AIh]at e;obtain⟨rfl,rfl,rfl⟩:=e;refine⟨hd,AIi _,rfl,E,[],[],El.refl h,rfl,rfl,by simp,fun pre arr _ _ ha=>⟨arr,rfl,by simpa using ha⟩⟩
 |n+1,i,(j,x)::l,(j',v)::m,E,bx,G,d,rows,Ls,d',h,hw,hd,hp,e=>by
  obtain⟨⟨hj,hx⟩,hp⟩:=hp;simp only at hj hx;subst hj;simp only[Sp]at e;split at e
  case isFalse=>cases e
  rename_i sR;subst sR;simp only[AGs,AGV,AIh]at e;obtain⟨⟨y1,X8,d1⟩,e1,⟨y2,TX,d2⟩,e2,rfl,rfl,rfl⟩:=e;dsimp only at e2⊢;obtain⟨a1,a2,E1,F1,k1,o1⟩:=jS h hw hd hx e1;have ju:=k1.le.keep (w:=w) (vw:=vw) h.st;obtain⟨b1,b2,b3,E2,Fs,css,k2,c1,c2,c3,c4⟩:=S7 hg (G:=F1++G) k1.boxes (hw.dQ k1) a1 (hp.imp fun _ _ q=>⟨q.1,Ku ju q.2⟩) e2;obtain⟨A,W,aO,o1'⟩:=HJ (d:=d'-1) (by omega) o1;refine⟨b1,AIx b2 a2,by simp[b3],_,A::Fs,v.cells.toList::css,El.more k1 k2 aO,by simp[c1],by simp[c2],fun k cs y G' q1 q2 q3=> ?_,fun pre arr pz hpn ha=> ?_⟩
  ·cases k with
   |zero=>
    simp at q1 q2 q3;subst q1 q2 q3;refine Cq (S:=fun b=>E1.S b∨b∈W) ?_ (fun _ _=>rfl) (fun _ _=>rfl) o1'
    intro c hc;exact hc.elim (fun h=> .inl (k2.le.S c h)) .inr
   |succ k=>
    refine Cq (S:=E2.S) ?_ (fun _ _=>rfl) (fun _ _=>rfl) (c3 k cs y G' (by simpa using q1) (by simpa using q2) (by simpa using q3))
    intro c hc;exact .inl hc
  ·have hlen:v.cells.toList.length=r.n:=Q8 o1
   have hpf:pre.flatten.length=i*r.n:=by
    clear ha c4
    subst pz;clear e1 e2
    induction pre with
    |nil=>simp
    |cons c pre ih=>simp[hpn c (by simp),ih (fun c hc=>hpn c (by simp[hc])),ALm];omega
   have PX:(Dv arr (i*r.n) v.cells.toList).toList=pre.flatten++v.cells.toList++(List.replicate n (EA r)).flatten:=
    U0 _ _ _ _ _ hpf ⟨EA r,by rw[HC,hlen],by rw[ha];simp[ALR]⟩
   obtain⟨Jf,f1,f2⟩:=c4 (pre++[v.cells.toList]) (Dv arr (i*r.n) v.cells.toList) (by simp[pz]) (by
    intro c hc;rcases AHp.1 hc with hc|hc
    ·exact hpn c hc
    ·simp at hc;subst hc;exact hlen) (by rw[PX];simp)
   refine⟨Jf,?_,by rw[f2];simp⟩;rw[gP (i:=i) (off:=i*r.n) (size:=r.n) rfl (by simpa using hlen) ?_]
   ·exact f1
   ·have h1:arr.size=arr.toList.length:=by simp
    rw[h1,ha,AHw,hpf,DW,HC];simp at hlen;rw[hlen,ALm];omega
 |n+1,i,[],[],E,bx,G,d,rows,Ls,d',h,hw,hd,hp,e=>by
  simp only[Sp,AGV,AIh]at e;obtain⟨⟨y2,TX,d2⟩,e2,rfl,rfl,rfl⟩:=e;obtain⟨b1,b2,b3,E2,Fs,css,k2,c1,c2,c3,c4⟩:=S7 hg (G:=G) h hw hd (parts:=[]) (vals:=[]) trivial e2;refine⟨b1,b2,by simp[b3],E2,[]::Fs,EA r::css,by simpa using k2,by simp[c1],by simp[c2],fun k cs y G' q1 q2 q3=> ?_,fun pre arr pz hpn ha=> ?_⟩
  ·cases k with
   |zero=>
    simp at q1 q2 q3;subst q1 q2 q3;exact YE hg
   |succ k=>exact c3 k cs y G' (by simpa using q1) (by simpa using q2) (by simpa using q3)
  ·obtain⟨Jf,f1,f2⟩:=c4 (pre++[EA r]) arr (by simp[pz]) (by
    intro c hc;rcases AHp.1 hc with hc|hc
    ·exact hpn c hc
    ·simp at hc;subst hc;exact HC r) (by rw[ha];simp[ALR])
   exact⟨Jf,f1,by rw[f2];simp⟩
 |0,_,_::_,_,_,_,_,_,_,_,_,_,_,_,_,e=>by simp[Sp]at e
 |0,_,[],_::_,_,_,_,_,_,_,_,_,_,_,hp,_=>hp.elim
 |_+1,_,[],_::_,_,_,_,_,_,_,_,_,_,_,hp,_=>hp.elim
 |_+1,_,_::_,[],_,_,_,_,_,_,_,_,_,_,hp,_=>hp.elim
section
variable{Y:Type} {P:Program} {T:HE} (hT:DY P T) {o:Oper} {E:Env} {σ:St} {a:Act} {w:World} {k:K Y} {y:Y}
include hT
theorem aj(h:Rel E σ a w){t n:Nat}{ps:Array (Nat×Operand)}(ho:o.op= .buildSlice t n ps)(e:MR T t n (ps.toList.map fun q=>(q.1,σ.ev q.2)) σ k=some y):IF P o E σ a w k y:=by
 unfold MR at e;split at e
 case h_2=>cases e
 rename_i el hd;split at e
 case h_2=>cases e
 rename_i r hr;split at e
 case isFalse=>cases e
 rename_i hc;simp only[AGx,AG7]at hc;obtain⟨⟨T8,hn⟩,hrn⟩:=hc;simp only[AGs]at e;obtain⟨⟨rows,Ls,d'⟩,e1,e⟩:=e;dsimp only at e;obtain⟨el',ti,hu,Mu,hs,hby,hrow⟩:=KM hT T8;obtain⟨i,z,i1,i2,i3,i4,i5,hg⟩:=WY hT Mu hrow;have ADC:=eL h ps;obtain⟨b1,b2,b3,E',Fs,css,k2,c1,c2,c3,c4⟩:=S7 hg h.bx (DO.refl _) (by omega) ADC e1
 let zero:Array Value:=if n*r.n=0 then #[]else z.cells
 have hz:((Array.range (n*r.n)).map (fun j=>zero[j%zero.size]!)).toList=(List.replicate n (EA r)).flatten:=by
  by_cases h0:n*r.n=0
  ·have h1:(List.replicate n (EA r)).flatten=[]:=by
    rw[←ALD,DW,HC,h0]
   rw[h1];simp[h0]
  ·have YU:EA r≠[]:=by
    intro he;have:=HC r;rw[he]at this;simp at this;rw[←this]at h0;simp at h0
   have:=Uk i5 n YU;rw[HC]at this;simp only[zero,AGU h0];exact this
 obtain⟨Jf,f1,f2⟩:=c4 [] _ rfl (by simp) (by rw[hz];simp);simp only[ALf,AIf]at f2
 let w':=w.alloc (.cells Jf el')
 have new:w'.heap[w.heap.size]? =some (.cells Jf el'):=by
  show(w.heap.push (.cells Jf el'))[w.heap.size]? =_
  simp
 obtain⟨d,rfl⟩:∃m,d' =m+1:=⟨d'-1,by omega⟩;have hl:∀c∈css,c.length=r.n:=by
  intro c hc;obtain⟨j,hj,rfl⟩:=AJE hc;exact Q8 (c3 j _ _ _ (AGI hj) (AGI (by omega)) (AGI (by omega)))
 have hfl:css.flatten.length=n*r.n:=by
  rw[←c1];clear f2 c3 c4 c1
  induction css with
  |nil=>simp
  |cons c l ih=>simp[hl c (by simp),ih (fun c hc=>hl c (by simp[hc])),ALm];omega
 have AAN:Jf.size=n*r.n:=by rw[←ALT,f2,hfl]
 obtain⟨Fs0,hB1,Ql⟩:=k2.boxes;simp only[AH7]at Ql;have how:Ow w' E'.S (d+1) (.sl r) [.slice (some ⟨w.heap.size,0,none⟩) rows.length n] rows (w.heap.size::Fs.flatten):=by
  refine YX (css:=css) (ex:=[]) new (by simpa using f2) (by omega) (by omega) (by omega) (aB _) (by omega) fun k cs y G q1 q2 q3=> ?_
  have W_:∀c∈G,c∈Fs.flatten:=fun c hc=>AIb.2 ⟨G,AH9 q3,hc⟩
  exact Cq (fun _ h=>h) (fun c hc=>LV (Ql.W0 c (Ql.st c hc))) (fun c hc=>LV (Ql.lt c (by simp only[AHp];exact .inr (W_ c hc)))) (by simpa using c3 k cs y G q1 q2 q3)
 rw[b3]at how;obtain⟨r1,r2,r3⟩:=OO h k2 (w':=w') (d:=d+1) (by omega) how (by
   intro c hc;rcases AIU.1 hc with rfl|hc
   ·exact .inr (AIi _)
   ·exact .inl hc) (by
   refine ALH.2 ⟨fun hc=> ?_,(AHW.1 Ql.nodup).2.1⟩;have:=Ql.lt w.heap.size (by simp only[AHp];exact .inr hc);omega) (by
   intro c hc;rcases AIU.1 hc with rfl|hc
   ·simp[w']
   ·have:=Ql.lt c (by simp only[AHp];exact .inr hc)
    simp[w'];omega) (fun c hc _=>LV hc) ⟨rfl,rfl,rfl,by simp[w']⟩
 refine⟨_,_,_,_,_,.inl ?_,r1,r3,r2.any,rfl,e⟩;have ba: ¬(n*r.n>2^24):=by
  have:n*r.n≤1024*1024:=Nat.mul_le_mul hn hrn;omega
 simp only[execOp,ho,Instr.buildSlice,Sem.run_bind,Aw hu,Result.andThen_ok,sizeOf,typeInfo,run_program,i1,Sem.run_pure,i2,hs,ba,AIk];by_cases h0:n*r.n=0
 ·have hz0:zero= #[]:=by simp only[zero,AGH h0]
  rw[hz0]at f1;simp only[h0,AKA,Sem.run_bind,Sem.run_pure,Result.andThen_ok];rw[h0]at f1;simp only[f1,newRow,Sem.run_bind,run_newObj,Result.andThen_ok,Sem.run_pure];rfl
 ·have hz0:zero=z.cells:=by simp only[zero,AGU h0]
  rw[hz0]at f1;simp only[h0,AIk,Sem.run_bind,zeroValue,typeInfo,run_program,Result.andThen_ok,i1,Sem.run_pure,i4];simp only[f1,newRow,Sem.run_bind,run_newObj,Result.andThen_ok,Sem.run_pure];rfl
end
end Go.Fw
end
section
namespace Go.Fw
theorem Um(w:World)(b o:Nat)(v:Value):(w.setCell ⟨b,o,none⟩ v).heap=w.heap.modify b fun
 | .cells c elem frozen=> .cells (c.setIfInBounds o v) elem frozen
 |o=>o:=rfl
theorem Hi:∀(vs:List Value) (o:Nat) (w:World) (b:Nat) (arr:Array Value) (ty:TypeId) (fr:ABD),w.heap[b]? =some (.cells arr ty fr)→
  (w.setCells b o vs).heap[b]? =some (.cells (Dv arr o vs) ty fr)
 |[],_,_,_,_,_,_,h=>h
 |v::l,o,w,b,arr,ty,fr,h=>by
  simp only[World.setCells,Dv];refine Hi l (o+1) _ b _ ty fr ?_
  rw[Um,Array.getElem?_modify,AGH rfl,h];rfl
theorem E7:∀(vs:List Value) (o:Nat) (w:World) (b:Nat),(w.setCells b o vs).heap.size=w.heap.size
 |[],_,_,_=>rfl
 |v::l,o,w,b=>by
  simp only[World.setCells];rw[E7 l,Um,Array.size_modify]
theorem H8:∀(vs:List Value) (o:Nat) (w:World) (b c:Nat),c≠b→(w.setCells b o vs).heap[c]? =w.heap[c]?
 |[],_,_,_,_,_=>rfl
 |v::l,o,w,b,c,h=>by
  simp only[World.setCells];rw[H8 l _ _ _ _ h,Um,Array.getElem?_modify,AGU (fun e=>h e.symm)]
theorem CN:∀(vs:List Value) (o:Nat) (w:World) (b:Nat),Grown w (w.setCells b o vs)
 |[],_,_,_=>⟨rfl,rfl,rfl,AIi _⟩
 |v::l,o,w,b=>by
  have:=CN l (o+1) (w.setCell ⟨b,o,none⟩ v) b;refine⟨this.os,this.tape,this.output,?_⟩;rw[E7];exact AIi _
theorem Qi{arr:Array Value}:∀{l:List Value} {o j:Nat},o+l.length≤arr.size→(Dv arr o l)[j]? =if o≤j∧j<o+l.length then l[j-o]? else arr[j]?:=by
 intro l
 induction l generalizing arr with
 |nil=>intro o j _;rw[AGU (fun hh=>by simp only[AIT]at hh;omega)];rfl
 |cons c l ih=>
  intro o j h;simp only[AHh]at h;simp only[Dv];rw[ih (by simp;omega)];by_cases h1:o+1≤j∧j<o+1+l.length
  ·rw[AGH h1,AGH (by simp;omega)]
   rw[show j-o=(j-(o+1))+1 by omega];simp
  ·rw[AGU h1]
   by_cases h2:o=j
   ·subst h2
    rw[AGH (by simp),Array.getElem?_setIfInBounds_self_of_lt (by omega),ALh];rfl
   ·rw[AGU (fun hh=>by simp only[AHh]at hh;omega),Array.getElem?_setIfInBounds_ne h2]
theorem JS{w:World}{b o:Nat}{arr:Array Value}{ty:TypeId}{fr:ABD}(h:w.heap[b]? =some (.cells arr ty fr)):w.cell? ⟨b,o,none⟩=arr[o]?:=by
 simp[World.cell?,h]
theorem PG{w:World}{b o:Nat}{vs:List Value}{arr:Array Value}{ty:TypeId}{fr:ABD}(h:w.heap[b]? =some (.cells arr ty fr))(hs:o+vs.length≤arr.size):Bp (w.setCells b o vs) b o vs:=by
 intro j v hj;have hl:=(AF9.1 hj).1;rw[JS (Hi vs o w b arr ty fr h),Qi hs,AGH (by omega),show o+j-o=j by omega,hj]
theorem W5{w:World}{b b' o o':Nat}{vs cs:List Value}{arr:Array Value}{ty:TypeId}{fr:ABD}(hc:Bp w b' o' cs)(h:w.heap[b]? =some (.cells arr ty fr))(hs:o+vs.length≤arr.size)
  (ha:b'≠b∨o'+cs.length≤o∨o+vs.length≤o'):Bp (w.setCells b o vs) b' o' cs:=by
 intro j v hj;have hl:=(AF9.1 hj).1;by_cases hb:b' =b
 ·subst hb
  have:=hc j v hj;rw[JS h]at this;rw[JS (Hi vs o w b' arr ty fr h),Qi hs,AGU (by omega),this]
 ·rw[World.cell?_of_block (a:=⟨b',o'+j,none⟩) (H8 vs o w b b' hb)]
  exact hc j v hj
theorem Yh{w:World}{b o n k:Nat}{arr:Array Value}{ty:TypeId}{fr:ABD}(h:w.heap[b]? =some (.cells arr ty fr))(hs:o+n≤arr.size)(hu:mR fr (arr.size+k)):w.there b o n:=by
 intro j hj;refine⟨?_,?_⟩
 ·rw[JS h]
  simp;omega
 ·have:=hu (o+j) (by omega)
  obtain⟨lo,hi⟩:=fr;simp only[World.frozen?,h];simp at this⊢;omega
theorem cr{w:World}{S:Nat→Prop}:∀{r:Ty} {d:Nat} {cs:List Value} {y:r.D} {F:AAU},Ow w S d r cs y F→ ∀v∈cs,v.oneCell' =true
 | .int _,_,_,_,_,h,v,hv=>by simp only[Ow]at h;rw[h.1]at hv;simp at hv;subst hv;rfl
 | .bool,_,_,_,_,h,v,hv=>by simp only[Ow]at h;rw[h.1]at hv;simp at hv;subst hv;rfl
 | .str,_,_,_,_,h,v,hv=>by simp only[Ow]at h;rw[h.1]at hv;simp at hv;subst hv;rfl
 | .unit,_,_,_,_,h,v,hv=>by simp only[Ow]at h;rw[h.1]at hv;simp at hv
 | .sl _,0,_,_,_,h,v,hv=>by
  simp only[Ow,Rd]at h;obtain⟨⟨_,_,rfl,_⟩,_⟩:=h;simp at hv;subst hv;rfl
 | .sl _,_+1,_,_,_,h,v,hv=>by
  simp only[Ow]at h;obtain⟨_,_,rfl,_⟩:=h;simp at hv;subst hv;rfl
 | .cons _ _,_,_,_,_,h,v,hv=>by
  simp only[Ow]at h;obtain⟨u,l,F1,F2,rfl,_,h1,h2⟩:=h;rcases AIU.1 hv with rfl|hv
  ·exact cr h1 _ (by simp)
  ·exact cr h2 _ hv
section
variable{P:Program} {w:World}
structure fl (P:Program) (w:World) (size n:Nat) (x:Value) (news:List Value):Prop where
 len:∀w',(Builtin.lenOf x).run P w' = .ok n w'
 cells:∀w',w'.heap=w.heap→(Builtin.firstCells size n x).run P w' = .ok news.toArray w'
theorem fF{ts:Array TypeId}{t u ty e:TypeId}(j8:ts[0]? =some t)(jc:ts[1]? =some u){i:TypeInfo}{size:Nat}(ht:P.underlying t=some (.slice e))(hu:(∃e,P.underlying u=some (.slice e))∨P.underlying u=some .string)(hi:P.info? e=some i)(LW:i.size=size)
  {b o TF cL n:Nat} {x:Value} {news:List Value} (hn:fl P w size n x news) (f_:TF+n≤cL) (hth:w.there b (o+TF*size) news.length) (h1:∀v∈news,v.oneCell' =true):
  (Builtin.append_ ts ty #[.slice (some ⟨b,o,none⟩) TF cL,x]).run P w= .ok (.slice (some ⟨b,o,none⟩) (TF+n) cL) (w.setCells b (o+TF*size) news):=by
 subst LW;have lM:=run_storeCells_cells (P:=P) b (o+TF*i.size) news 0 w (fun j hj=>by simpa using(hth j hj).1) (fun j hj=>by simpa using(hth j hj).2) h1;simp only[AK1]at lM;have hl:=hn.len w;have hf:=hn.cells w rfl;rcases hu with⟨e',hu⟩|hu
 ·simp[Builtin.append_,j8,jc,run_underlying ht,run_underlying hu,sizeOf,typeInfo,hi,hl,f_,hf,Addr.add_eq,lM]
 ·simp[Builtin.append_,j8,jc,run_underlying ht,run_underlying hu,sizeOf,typeInfo,hi,hl,f_,hf,Addr.add_eq,lM]
theorem bU{ts:Array TypeId}{t u ty e:TypeId}(j8:ts[0]? =some t)(jc:ts[1]? =some u){i:TypeInfo}{size:Nat}(ht:P.underlying t=some (.slice e))(hu:(∃e,P.underlying u=some (.slice e))∨P.underlying u=some .string)(hi:P.info? e=some i)(LW:i.size=size)
  {a:Option Addr} {x:Value} (hn:fl P w size 0 x []):
  (Builtin.append_ ts ty #[.slice a 0 0,x]).run P w= .ok (.slice a 0 0) w:=by
 subst LW;have hl:=hn.len w;have hf:=hn.cells w rfl;cases a with
 |none=>
  rcases hu with⟨e',hu⟩|hu
  ·simp[Builtin.append_,j8,jc,run_underlying ht,run_underlying hu,sizeOf,typeInfo,hi,hl,hf]
  ·simp[Builtin.append_,j8,jc,run_underlying ht,run_underlying hu,sizeOf,typeInfo,hi,hl,hf]
 |some a=>
  have lM:(storeCells (a.add (0*i.size)) [] 0).run P w= .ok () w:=rfl;rcases hu with⟨e',hu⟩|hu
  ·simp[Builtin.append_,j8,jc,run_underlying ht,run_underlying hu,sizeOf,typeInfo,hi,hl,hf,storeCells]
  ·simp[Builtin.append_,j8,jc,run_underlying ht,run_underlying hu,sizeOf,typeInfo,hi,hl,hf,storeCells]
theorem ai{ts:Array TypeId}{t u ty e:TypeId}(j8:ts[0]? =some t)(jc:ts[1]? =some u){i:TypeInfo}{z:Value}{size:Nat}(ht:P.underlying t=some (.slice e))(hu:(∃e,P.underlying u=some (.slice e))∨P.underlying u=some .string)(hi:P.info? e=some i)(hz:i.zero=some z)(LW:i.size=size)
  {a:Option Addr} {TF cL n:Nat} {x:Value} {AHc news:List Value} (ho:∀w',w'.heap=w.heap→(Builtin.firstCells size TF (.slice a TF cL)).run P w' = .ok AHc.toArray w')
  (hn:fl P w size n x news) (AIB:cL<TF+n) (h63:TF+n≤DE) (hby:i.bytes≤512):
  (Builtin.append_ ts ty #[.slice a TF cL,x]).run P w= .ok (.slice (some ⟨w.heap.size,0,none⟩) (TF+n) (grownCap w (TF+n) cL e))
   (w.drew.alloc (.cells (AHc.toArray++news.toArray++Builtin.zeroCells z.cells (grownCap w (TF+n) cL e-(TF+n))) e)):=by
 subst LW;have hl:=hn.len w;have hf:=hn.cells w.drew rfl;have hfo:=ho w.drew rfl;have hno: ¬(TF+n≤cL):=by omega
 have hb:(TF+n)*i.bytes≤140737488355328:=by
  have:(TF+n)*i.bytes≤DE*512:=Nat.mul_le_mul h63 hby;simp only[DE]at this;omega
 have h48:=growslice_fits AIB hb;have AH6: ¬(281474976710656<Builtin.nextslicecap (TF+n) cL*i.bytes):=by omega
 have AHb: ¬(9223372036854775807<((TF:Int)+(n:Int))):=by simp only[DE]at h63;omega
 rcases hu with⟨e',hu⟩|hu
 ·simp[Builtin.append_,j8,jc,run_underlying ht,run_underlying hu,sizeOf,typeInfo,zeroValue,hi,hz,hl,hno,AHb,AH6,Question.forced,hf,hfo,newRow,grownCap]
  congr 2
  apply Array.ext';simp[AGq]
 ·simp[Builtin.append_,j8,jc,run_underlying ht,run_underlying hu,sizeOf,typeInfo,zeroValue,hi,hz,hl,hno,AHb,AH6,Question.forced,hf,hfo,newRow,grownCap]
  congr 2
  apply Array.ext';simp[AGq]
end
end Go.Fw
end
section
namespace Go.Fw
def Dr(w:World)(S:Nat→Prop)(d:Nat)(r:Ty)(css:List (List Value))(rows:List r.D)(Fs:List AAU):Prop:=
 css.length=rows.length∧Fs.length=rows.length∧(∀c∈css,c.length=r.n)∧ ∀(i:Nat) cs y G,css[i]? =some cs→rows[i]? =some y→Fs[i]? =some G→Ow w S d r cs y G
theorem Dr.mono{w w':World}{S S':Nat→Prop}{d:Nat}{r:Ty}{css:List (List Value)}{rows:List r.D}{Fs:List AAU}(h:Dr w S d r css rows Fs)(hS:∀c,S c→S' c)(hw:∀c,S c→w'.heap[c]? =w.heap[c]?)
  (hF:∀c∈Fs.flatten,w'.heap[c]? =w.heap[c]?):Dr w' S' d r css rows Fs:=
 ⟨h.1,h.2.1,h.2.2.1,fun i cs y G a b c=>Cq hS hw (fun x hx=>hF x (AIb.2 ⟨G,AH9 c,hx⟩)) (h.2.2.2 i cs y G a b c)⟩
theorem Dr.append{w:World}{S:Nat→Prop}{d:Nat}{r:Ty}{css AH4:List (List Value)}{rows B3:List r.D}{Fs Fs':List AAU}(h:Dr w S d r css rows Fs)(k:Dr w S d r AH4 B3 Fs'):
  Dr w S d r (css++AH4) (rows++B3) (Fs++Fs'):=by
 refine⟨by simp[h.1,k.1],by simp[h.2.1,k.2.1],fun c hc=>(AHp.1 hc).elim (h.2.2.1 c) (k.2.2.1 c),fun i cs y G a b c=> ?_⟩;by_cases hi:i<rows.length
 ·rw[AG0 (by rw[h.1];exact hi)]at a
  rw[AG0 hi]at b;rw[AG0 (by rw[h.2.1];exact hi)]at c;exact h.2.2.2 i cs y G a b c
 ·rw[AIC (by rw[h.1];omega)]at a
  rw[AIC (by omega)]at b;rw[AIC (by rw[h.2.1];omega)]at c;rw[h.1]at a;rw[h.2.1]at c;exact k.2.2.2 _ cs y G a b c
theorem Dr.weaken{w:World}{S:Nat→Prop}{d d':Nat}{r:Ty}{css:List (List Value)}{rows:List r.D}{Fs:List AAU}(h:Dr w S d r css rows Fs)(hd:d'≤d):
  ∃(Gs:List AAU) (W:AAU),Fs.flatten.Perm (Gs.flatten++W)∧Dr w (fun c=>S c∨c∈W) d' r css rows Gs:=by
 obtain⟨Gs,Ws,h1,h2,h3,h4⟩:=cz (R:=fun i G F W=> ∀cs y,css[i]? =some cs→rows[i]? =some y→Ow w (fun c=>S c∨c∈W) d' r cs y F) Fs 0 (fun i G hG=>by
  rw[AJv];have hi:=(AF9.1 hG).1;have h1:=h.1;have h2:=h.2.1;obtain⟨F,W,hp,ho⟩:=HJ hd (h.2.2.2 i _ _ G (AGI (by omega)) (AGI (by omega)) hG);refine⟨F,W,hp,fun cs y a b=> ?_⟩;rw[AGI (by omega)]at a b;cases a;cases b;exact ho)
 refine⟨Gs,Ws.flatten,h3,h.1,h1.trans h.2.1,h.2.2.1,fun i cs y G a b c=> ?_⟩;have hi:=(AF9.1 c).1;have hw:Ws[i]? =some (Ws[i]'(by omega)):=AGI _;have hf:Fs[i]? =some (Fs[i]'(by omega)):=AGI _;have:=h4 i _ _ _ hf c hw cs y (by rw[AJv];exact a) (by rw[AJv];exact b);exact Cq (fun x hx=>hx.imp id fun hx=>AIb.2 ⟨_,AH9 hw,hx⟩) (fun _ _=>rfl) (fun _ _=>rfl) this
theorem Rw{n:Nat}:∀{css:List (List Value)},(∀c∈css,c.length=n)→css.flatten.length=css.length*n
 |[],_=>by simp
 |c::l,h=>by simp[h c (by simp),Rw (css:=l) (fun c hc=>h c (by simp[hc])),ALm];omega
theorem Dr.one{w:World}{S:Nat→Prop}{d:Nat}{r:Ty}{css:List (List Value)}{rows:List r.D}{Fs:List AAU}(h:Dr w S d r css rows Fs):∀v∈css.flatten,v.oneCell' =true:=by
 intro v hv;obtain⟨c,hc,hv⟩:=AIb.1 hv;obtain⟨i,hi,rfl⟩:=AJE hc;have h1:=h.1;have h2:=h.2.1;exact cr (h.2.2.2 i _ _ _ (AGI hi) (AGI (by omega)) (AGI (by omega))) v hv
theorem Dr.flat{w:World}{B S:Nat→Prop}{d:Nat}{r:Ty}(hf:r.flat=true){css:List (List Value)}{rows:List r.D}(h1:css.length=rows.length)(h2:∀c∈css,c.length=r.n)
  (h3:∀(i:Nat) cs y,css[i]? =some cs→rows[i]? =some y→Rd w B r cs y):Dr w S d r css rows (List.replicate rows.length []):=by
 refine⟨h1,by simp,h2,fun i cs y G a b c=> ?_⟩;have:G=[]:=AJN (AH9 c);subst this;exact YZ hf (h3 i cs y a b)
theorem Bp.heap{w w':World}{b o:Nat}{cs:List Value}(h:Bp w b o cs)(e:w'.heap=w.heap):Bp w' b o cs:=h.of_block (by rw[e])
theorem Ny{P:Program}{w:World}{a:Option Addr}{n cap size:Nat}{css:List (List Value)}(hl:css.length=n)(hc:∀c∈css,c.length=size)
  (h:n=0∨ ∃b o,a=some ⟨b,o,none⟩∧Bp w b o css.flatten):fl P w size n (.slice a n cap) css.flatten:=by
 refine⟨fun w' =>rfl,fun w' e=> ?_⟩;have hlen:css.flatten.length=n*size:=by rw[Rw hc,hl]
 rcases h with rfl|⟨b,o,rfl,h⟩
 ·have:css=[]:=AIV hl
  subst this;cases a with
  |none=>rfl
  |some a=>
   simp only[Builtin.firstCells,Nat.zero_mul,ALf];exact RD a
 ·simp only[Builtin.firstCells]
  rw[←hlen];exact ZJ (h.heap e)
theorem ru{P:Program}{w:World}{s:AAg}:fl P w 1 s.length (.string ⟨s.toArray⟩) (s.map fun c=>[Value.int .u8 (c.toNat:Int)]).flatten:=by
 refine⟨fun w' =>rfl,fun w' _=> ?_⟩;have LW:(⟨s.toArray⟩:ByteArray).size=s.length:=by simp[ByteArray.size]
 have e1:(⟨s.toArray⟩:ByteArray).extract 0 s.length=⟨s.toArray⟩:=by
  rw[←LW];apply ByteArray.ext;simp
 simp only[Builtin.firstCells,e1,Sem.run_pure];have:(s.map fun c=>[Value.int .u8 (c.toNat:Int)]).flatten=s.map fun c=>Value.int .u8 (c.toNat:Int):=by
  have:=Rg (l:=s.map fun c=>Value.int .u8 (c.toNat:Int));simpa[ALX,Function.comp_def]using this
 rw[this];simp
theorem nI{w:World}{S:Nat→Prop}{d:Nat}{r:Ty}{v:Value}{rows:List r.D}{F:AAU}(h:Ow w S (d+1) (.sl r) [v] rows F):
  ∃a cap css Fs R,v= .slice a rows.length cap∧rows.length≤cap∧Dr w S d r css rows Fs∧F.Perm (Fs.flatten++R)∧
   ((cap=0∧F=[])∨ ∃b o arr ty fr,a=some ⟨b,o,none⟩∧w.heap[b]? =some (.cells arr ty fr)∧o+cap*r.n≤arr.size∧mR fr (arr.size+mk r)∧F=b::Fs.flatten∧Bp w b o css.flatten):=by
 simp only[Ow]at h;obtain⟨a,cap,e,hle,h⟩:=h;simp only[AId,AJo]at e;subst e;rcases h with⟨h,rfl⟩|⟨b,o,arr,ty,fr,Fs,rfl,hb,LW,hu,rfl,hFl,hr⟩
 ·have:rows=[]:=AIV (by omega)
  subst this;exact⟨a,cap,[],[],[],rfl,hle,⟨rfl,rfl,by simp,fun i cs y G h=>by simp at h⟩,by simp,.inl ⟨h,rfl⟩⟩
 ·
  have key:∀(n o:Nat) (ys:List r.D) (Fs:List AAU),ys.length=n→Fs.length=n→(∀(i:Nat) (y:r.D) (G:AAU),ys[i]? =some y→Fs[i]? =some G→ ∃cs,cs.length=r.n∧Bp w b (o+i*r.n) cs∧Ow w S d r cs y G)→
    ∃css,Dr w S d r css ys Fs∧Bp w b o css.flatten:=by
   intro n
   induction n with
   |zero=>
    intro o ys Fs h1 h2 _;obtain rfl:=AIV h1;obtain rfl:=AIV h2;exact⟨[],⟨rfl,rfl,by simp,fun i cs y G h=>by simp at h⟩,fun _ _ h=>by simp at h⟩
   |succ n ih=>
    intro o ys Fs h1 h2 hh;obtain⟨y,ys,rfl⟩:=ALd h1;obtain⟨G,Fs,rfl⟩:=ALd h2;obtain⟨cs,c1,c2,c3⟩:=hh 0 y G rfl rfl;obtain⟨css,d1,d2⟩:=ih (o+r.n) ys Fs (by simpa using h1) (by simpa using h2) (fun i z G hz hG=>by
     obtain⟨cs,e1,e2,e3⟩:=hh (i+1) z G (by simpa using hz) (by simpa using hG);refine⟨cs,e1,?_,e3⟩;rw[AJ3,ALi]at e2
     rwa [show o+r.n+i*r.n=o+(i*r.n+r.n)by omega])
    refine⟨cs::css,⟨by simp[d1.1],by simp[d1.2.1],fun c hc=> ?_,fun i VB y' G' a b c=> ?_⟩,?_⟩
    ·rcases AIU.1 hc with rfl|hc
     ·exact c1
     ·exact d1.2.2.1 c hc
    ·cases i with
     |zero=>simp at a b c;subst a b c;exact c3
     |succ i=>exact d1.2.2.2 i VB y' G' (by simpa using a) (by simpa using b) (by simpa using c)
    ·rw[AI2]
     refine Bp.append (by simpa using c2) ?_
     rw[c1];exact d2
  obtain⟨css,k1,k2⟩:=key rows.length o rows Fs rfl hFl hr;refine⟨_,cap,css,Fs,[b],rfl,hle,k1,?_,.inr ⟨b,o,arr,ty,fr,rfl,hb,LW,hu,rfl,k2⟩⟩;exact(AIa (l₁:=[b]) (l₂:=Fs.flatten))
theorem ZH{w:World}{S:Nat→Prop}:∀{r:Ty} {cs:List Value} {x:r.D},Rd w S r cs x→Ow w S 0 r cs x []
 | .cons c r,cs,x,hr=>by
  simp only[Rd]at hr;obtain⟨v,l,rfl,h1,h2⟩:=hr;simp only[Ow];exact⟨v,l,[],[],rfl,rfl,ZH h1,ZH h2⟩
 | .unit,_,_,hr=>by simp only[Rd]at hr;simp[Ow,hr]
 | .int k,_,_,hr=>by simp only[Rd]at hr;simp[Ow,hr]
 | .bool,_,_,hr=>by simp only[Rd]at hr;simp[Ow,hr]
 | .str,_,_,hr=>by simp only[Rd]at hr;simp[Ow,hr]
 | .sl q,_,_,hr=>by simp only[Ow];exact⟨hr,trivial⟩
theorem W6{P:Program}{E:Env}{w:World}{vw bx:List Bx}{G:AAU}(h:CD E w vw bx G)(hw:DO bx vw){x:AV}{v:Value}(hv:VR E w vw x v){r:Ty}{rows:List r.D}{Ls:List Bx}{d:Nat}
  (e:bh bx x=some ⟨r,rows,Ls,d⟩):1≤d∧ ∃E' F css Fs R,El E w vw bx G E' Ls F∧F.Perm (List.flatten Fs++R)∧Dr w E'.S (d-1) r css rows Fs∧fl P w r.n rows.length v css.flatten:=by
 have plain:∀{B:Nat→Prop} {ys:List r.D},r.flat=true→Rd w B (.sl r) [v] ys→ ∀S:Nat→Prop,∃css,Dr w S 8 r css ys (List.replicate ys.length [])∧fl P w r.n ys.length v css.flatten:=by
  intro B ys hf hr S;simp only[Rd]at hr;obtain⟨a,cap,e1,hle,hr⟩:=hr;simp only[AId,AJo]at e1;subst e1;rcases hr with hr|⟨b,o,rfl,_,hr⟩
  ·have:ys=[]:=AIV hr
   subst this;exact⟨[],⟨rfl,rfl,by simp,fun i cs y G h=>by simp at h⟩,Ny (css:=[]) rfl (by simp) (.inl rfl)⟩
  ·obtain⟨css,c1,c2,c3,c4⟩:=jP hr
   exact⟨css,Dr.flat hf c1 c2 c4,Ny c1 c2 (.inr ⟨b,o,rfl,c3⟩)⟩
 have done:∀{B:Nat→Prop} {ys:List r.D},r.flat=true→Rd w B (.sl r) [v] ys→rows=ys→Ls=bx→d=9→
   1≤d∧ ∃E' F css Fs R,El E w vw bx G E' Ls F∧F.Perm (List.flatten Fs++R)∧Dr w E'.S (d-1) r css rows Fs∧fl P w r.n rows.length v css.flatten:=by
  intro B ys hf hr e1 e2 e3;subst e1 e2 e3;obtain⟨css,k1,k2⟩:=plain hf hr E.S;exact⟨by omega,E,[],css,_,[],El.refl h,by simp,k1,k2⟩
 unfold bh at e;split at e
 ·rename_i s
  simp only[AGL,AIM]at e;obtain⟨rfl,e⟩:=e;have e:=AIe e;simp only[AIh]at e;obtain⟨rfl,rfl,rfl⟩:=e;have VD:=RS hv;subst VD;refine⟨by omega,E,[],s.map fun c=>[Value.int .u8 (c.toNat:Int)],_,[],El.refl h,?_,Dr.flat (B:=fun _=>False) rfl (by simp) (by simp[Ty.n]) (fun i cs y a b=> ?_),?_⟩
  ·simp
  ·simp only[AIg,AGV]at a b
   obtain⟨c1,z1,rfl⟩:=a;obtain⟨c2,z2,rfl⟩:=b;rw[z1]at z2;cases z2;simp[Rd]
  ·have:=ru (P:=P) (w:=w) (s:=s)
   simpa[Ty.n]using this
 ·rename_i s q ys
  split at e
  ·rename_i hf
   simp only[AGL,AIM]at e;obtain⟨rfl,e⟩:=e;have e:=AIe e;simp only[AIh]at e;obtain⟨rfl,rfl,rfl⟩:=e;exact done hf hv rfl rfl rfl
  ·split at e
   case isFalse=>cases e
   rename_i hs;simp only[AGL,AIM]at e;obtain⟨rfl,e⟩:=e;have e:=AIe e;simp only[AIh]at e;obtain⟨rfl,rfl,rfl⟩:=e;subst hs;simp only[VR,AKA]at hv;simp only[Rd]at hv;obtain⟨a,cap,e1,hle,hr⟩:=hv;simp only[AId,AJo]at e1;subst e1;have key:∃css:List (List Value),List.length css=ys.length∧(∀c∈css,c.length=q.n)∧(∀(i:Nat) cs y,css[i]? =some cs→ys[i]? =some y→Rd w E.S q cs y)∧fl P w q.n ys.length (.slice a ys.length cap) css.flatten:=by
    rcases hr with hr|⟨b,o,rfl,_,hr⟩
    ·have:ys=[]:=AIV hr
     subst this;exact⟨[],rfl,by simp,fun i cs y h=>by simp at h,Ny (css:=[]) rfl (by simp) (.inl rfl)⟩
    ·obtain⟨css,c1,c2,c3,c4⟩:=jP hr
     exact⟨css,c1,c2,c4,Ny c1 c2 (.inr ⟨b,o,rfl,c3⟩)⟩
   obtain⟨css,c1,c2,c3,c4⟩:=key;refine⟨AIi _,E,[],css,List.replicate ys.length [],[],El.refl h,by simp,⟨c1,by simp,c2,fun i cs y G a b c=> ?_⟩,c4⟩;have:G=[]:=AJN (AH9 c);subst this;exact ZH (c3 i cs y a b)
 ·rename_i b
  split at e
  case h_2=>cases e
  rename_i d0 q ys hb;split at e
  ·rename_i hf
   simp only[AGL,AIM]at e;obtain⟨rfl,e⟩:=e;have e:=AIe e;simp only[AIh]at e;obtain⟨rfl,rfl,rfl⟩:=e;obtain⟨Fs,hB,hS⟩:=h;exact done hf (TZ hw hB hS.st hv (q:=q) (ys:=ys) (by simp[Ja,hb,EY])) rfl rfl rfl
  ·simp only[AGL,AIM]at e
   obtain⟨rfl,e⟩:=e;have e:=AIe e;simp only[AIh]at e;obtain⟨rfl,rfl,rfl⟩:=e;obtain⟨F,⟨hd,ho⟩,hB⟩:=h.take hb;have hvw:=Sl hw hb;simp only[VR,hvw,B5,AGL]at hv;obtain⟨_,_,_,rfl⟩:=hv;obtain⟨m,rfl⟩:∃m,d0=m+1:=⟨d0-1,by omega⟩;obtain⟨a,cap,css,Fs,R,e1,hle,U_,hp,hcase⟩:=nI ho;refine⟨hd,E,F,css,Fs,R,⟨Le.refl _,by simp,fun n B hn=> ?_,hB⟩,hp,U_,?_⟩
   ·rw[AJb]at hn
    split at hn
    ·split at hn
     ·exact .inl (by simpa using hn.symm)
     ·cases hn
    ·exact .inr hn
   ·rw[e1]
    refine Ny U_.1 U_.2.2.1 ?_
    rcases hcase with⟨h0,_⟩|⟨b,o,arr,ty,fr,rfl,_,_,_,_,hc⟩
    ·exact .inl (by omega)
    ·exact .inr ⟨b,o,rfl,hc⟩
 ·rename_i b p _
  split at e
  case h_2=>cases e
  rename_i d0 q ys hb;simp only[AGs]at e;obtain⟨⟨q',zs⟩,e1,e⟩:=e;dsimp only at e;split at e
  case isFalse=>cases e
  rename_i hf;simp only[AGL,AIM]at e;obtain⟨rfl,e⟩:=e;have e:=AIe e;simp only[AIh]at e;obtain⟨rfl,rfl,rfl⟩:=e;obtain⟨Fs,hB,hS⟩:=h;exact done hf (TZ hw hB hS.st hv (q:=q') (ys:=zs) (by simp[Ja,hb,e1])) rfl rfl rfl
 ·rename_i b p off n
  split at e
  case h_2=>cases e
  rename_i d0 q ys hb;simp only[AGs]at e;obtain⟨⟨q',zs⟩,e1,e⟩:=e;dsimp only at e;split at e
  case isFalse=>cases e
  rename_i hf;simp only[AGL,AIM]at e;obtain⟨rfl,e⟩:=e;have e:=AIe e;simp only[AIh]at e;obtain⟨rfl,rfl,rfl⟩:=e;obtain⟨Fs,hB,hS⟩:=h;exact done hf (TZ hw hB hS.st hv (q:=q') (ys:=(zs.drop off).take n) (by simp[Ja,hb,e1])) rfl rfl rfl
 ·cases e
theorem XB{E:Env}{w:World}{vw bx:List Bx}{G:AAU}(h:CD E w vw bx G)(hw:DO bx vw){x:AV}{v:Value}(hv:VR E w vw x v){r:Ty}{rows:List r.D}{Ls:List Bx}{d:Nat}
  (e:cA bx x=some ⟨r,rows,Ls,d⟩):1≤d∧ ∃F1 F2,El E w vw bx G E Ls (F1++F2)∧Ow w E.S d (.sl r) [v] rows F1:=by
 have tk:∀{b d0:Nat} {q:Ty} {ys:List q.D},bx[b]? =some (.sl d0 q ys)→ ∃F,1≤d0∧Ow w E.S d0 (.sl q) [E.Fq b] ys F∧El E w vw bx G E (bx.set b .dead) F:=by
  intro b d0 q ys hb;obtain⟨F,⟨hd,ho⟩,hB⟩:=h.take hb;refine⟨F,hd,ho,⟨Le.refl _,by simp,fun n B hn=> ?_,hB⟩⟩;rw[AJb]at hn;split at hn
  ·split at hn
   ·exact .inl (by simpa using hn.symm)
   ·cases hn
  ·exact .inr hn
 unfold cA at e;split at e
 ·rename_i b
  split at e
  case h_2=>cases e
  rename_i d0 q ys hb;simp only[AGL,AIM]at e;obtain⟨rfl,e⟩:=e;have e:=AIe e;simp only[AIh]at e;obtain⟨rfl,rfl,rfl⟩:=e;obtain⟨F,hd,ho,hT⟩:=tk hb;have hvw:=Sl hw hb;simp only[VR,hvw,B5,AGL]at hv;obtain⟨_,_,_,rfl⟩:=hv;exact⟨hd,F,[],by simpa using hT,ho⟩
 ·rename_i b off n
  split at e
  case h_2=>cases e
  rename_i d0 q ys hb;simp only[AGL,AIM]at e;obtain⟨rfl,e⟩:=e;have e:=AIe e;simp only[AIh]at e;obtain⟨rfl,rfl,rfl⟩:=e;obtain⟨F,hd,ho,hT⟩:=tk hb;have hvw:=Sl hw hb;simp only[VR,hvw,B5,AGL]at hv;obtain⟨_,_,q',zs,a,len,cap,h1,h2,h3,rfl⟩:=hv;simp only[EY,AGL,AIM]at h1;obtain⟨rfl,h1⟩:=h1;obtain rfl:=AIe h1;rw[h3]at ho;obtain⟨m,rfl⟩:∃m,d0=m+1:=⟨d0-1,by omega⟩;obtain⟨F1,F2,hp,mN⟩:=sI ho h2;exact⟨hd,F1,F2,⟨hT.le,hT.len,hT.within,hT.boxes.perm (AIS _ hp)⟩,mN⟩
 ·cases e
end Go.Fw
end
section
namespace Go.Fw
theorem fP{P:Program}{w:World}{a:Option Addr}{n cap size:Nat}{css:List (List Value)}(hl:css.length=n)(hc:∀c∈css,c.length=size)
  (h:n=0∨ ∃b o,a=some ⟨b,o,none⟩∧Bp w b o css.flatten):∀w',w'.heap=w.heap→(Builtin.firstCells size n (.slice a n cap)).run P w' = .ok css.flatten.toArray w':=
 (Ny (P:=P) (cap:=cap) hl hc h).cells
theorem fu{z:Array Value}{n:Nat}:(Builtin.zeroCells z n).size=n*z.size:=size_zeroCells z n
section
variable{Y:Type} {P:Program} {T:HE} (hT:DY P T) {o:Oper} {E:Env} {σ:St} {a:Act} {w:World} {k:K Y} {y:Y}
include hT
theorem aP(h:Rel E σ a w){E2:Env}{TX:List Bx}{F Fd R:AAU}{t u ty:TypeId}{ts:Array TypeId}(j8:ts[0]? =some t)(jc:ts[1]? =some u)
  (hu:(∃e,P.underlying u=some (.slice e))∨P.underlying u=some .string) {m:Nat} {r:Ty} (T8:T.Mk t r=true)
  (kT:El E w σ.bx σ.bx [] E2 TX F) {v1 v2:Value} {drows Mm:List r.D} {css:List (List Value)} {Fs:List AAU}
  (ho:Ow w E2.S (m+1) (.sl r) [v1] drows Fd) (hs:Dr w E2.S m r css Mm Fs) (hn:fl P w r.n Mm.length v2 css.flatten) (hp:F.Perm (Fd++Fs.flatten++R)) (ba:drows.length+Mm.length≤DE):
  ∃v w' E',(Builtin.append_ ts ty #[v1,v2]).run P w= .ok v w'∧Rel E' { σ with bx:=TX++[.sl (m+1) r (drows++Mm)] } a w'∧MV [] E σ.bx w E' (TX++[.sl (m+1) r (drows++Mm)]) w'∧
   XR E' w' (TX++[.sl (m+1) r (drows++Mm)]) (.c (.ref TX.length [])) v:=by
 obtain⟨e,ti,hut,Mu,hs1,hby,hrow⟩:=KM hT T8;obtain⟨i,z,i1,i2,i3,i4,i5,hg⟩:=WY hT Mu hrow;rw[hs1]at i2;obtain⟨Fs0,hB1,Ql⟩:=kT.boxes;simp only[AH7]at Ql;have hdF:∀c∈Fd,c∈F:=fun c hc=>hp.mem_iff.2 (by simp[hc])
 have hsF:∀c∈Fs.flatten,c∈F:=fun c hc=>hp.mem_iff.2 (by simp only[AHp];exact .inl (.inr hc))
 have ndF:=(AHW.1 (hp.nodup_iff.1 (AHW.1 Ql.nodup).2.1)).1;have ltF:∀c∈F,c<w.heap.size:=fun c hc=>Ql.lt c (by simp only[AHp];exact .inr hc)
 have AHY:∀c∈F,¬E2.S c:=fun c hc hS=>Ql.free c (by simp only[AHp];exact .inr hc) (Ql.st c hS)
 have ho0:=ho;obtain⟨ad,cap,dcss,Fs1,R1,rfl,hle,hd,hp1,hcase⟩:=nI ho;have Vp:css.flatten.length=Mm.length*r.n:=by rw[Rw hs.2.2.1,hs.1]
 have hdl:dcss.flatten.length=drows.length*r.n:=by rw[Rw hd.2.2.1,hd.1]
 by_cases f_:drows.length+Mm.length≤cap
 ·rcases hcase with⟨h0,hF0⟩|⟨b,of,arr,ty0,fr,rfl,hb,LW,hunf,rfl,hc⟩
  ·
   have hd0:drows=[]:=AIV (by omega);have hs0:Mm=[]:=AIV (by omega);subst hd0 hs0;have hc0:css=[]:=AIV hs.1;subst hc0 h0;have fq:=bU (P:=P) (w:=w) (ty:=ty) j8 jc hut hu i1 i2 (a:=ad) (x:=v2) (by simpa using hn);obtain⟨r1,r2,r3⟩:=OO h kT (w':=w) (d:=m+1) (by omega) ho0 (fun c hc=> .inl (hdF c hc)) (AHW.1 ndF).1 (fun c hc=>ltF c (hdF c hc)) (fun _ _ _=>rfl) ⟨rfl,rfl,rfl,AIi _⟩;exact⟨_,_,_,fq,r1,r2,r3⟩
  ·
   have Tf:of+drows.length*r.n+css.flatten.length≤arr.size:=by
    have:(drows.length+Mm.length)*r.n≤cap*r.n:=AIq _ f_;rw[AJ3]at this;omega
   have fq:=fF (P:=P) (w:=w) (ty:=ty) j8 jc hut hu i1 i2 (b:=b) (o:=of) hn f_ (Yh hb Tf hunf) hs.one;have hbF:b∈F:=hdF b (by simp);have YU:∀c,c∈Fs1.flatten∨c∈Fs.flatten∨E2.S c→c≠b:=by
    intro c jG e;subst e;rcases jG with jG|jG|jG
    ·exact(ALH.1 (AHW.1 ndF).1).1 jG
    ·exact(AHW.1 ndF).2.2 c (by simp) c jG rfl
    ·exact AHY c hbF jG
   have T7:∀c,c≠b→(w.setCells b (of+drows.length*r.n) css.flatten).heap[c]? =w.heap[c]?:=fun c hc=>H8 _ _ _ _ _ hc
   have hd':=hd.mono (w':=w.setCells b (of+drows.length*r.n) css.flatten) (S':=E2.S) (fun _ h=>h) (fun c hc=>T7 c (YU c (.inr (.inr hc)))) (fun c hc=>T7 c (YU c (.inl hc)));have wF:=hs.mono (w':=w.setCells b (of+drows.length*r.n) css.flatten) (S':=E2.S) (fun _ h=>h) (fun c hc=>T7 c (YU c (.inr (.inr hc)))) (fun c hc=>T7 c (YU c (.inr (.inl hc))));have Wt:=hd'.append wF;have iT:Bp (w.setCells b (of+drows.length*r.n) css.flatten) b of (dcss++css).flatten:=by
    rw[AJ4];refine Bp.append (W5 hc hb Tf (.inr (.inl (by omega)))) ?_
    rw[hdl];exact PG hb Tf
   have how:Ow (w.setCells b (of+drows.length*r.n) css.flatten) E2.S (m+1) (.sl r) [.slice (some ⟨b,of,none⟩) (drows.length+Mm.length) cap] (drows++Mm) (b::(Fs1++Fs).flatten):=by
    simp only[Ow];refine⟨_,cap,by rw[AHw],by rw[AHw];exact f_,.inr ⟨b,of,_,ty0,fr,Fs1++Fs,rfl,Hi _ _ _ _ _ _ _ hb,by rw[Hg];exact LW,by rw[Hg];exact hunf,rfl,Wt.2.1,fun j q G hq hG=> ?_⟩⟩;have hj:=(AF9.1 hq).1;have h1:=Wt.1;have nN:j<(dcss++css).length:=by omega
    refine⟨(dcss++css)[j],Wt.2.2.1 _ (AIN _),fun x u hx=> ?_,Wt.2.2.2 j _ _ _ (AGI nN) hq hG⟩;have hxl:=(AF9.1 hx).1;rw[Wt.2.2.1 _ (AIN _)]at hxl;have:=Vr (n:=r.n) (css:=dcss++css) (ex:=[]) (i:=j) Wt.2.2.1 (AGI nN) hxl;rw[AH7,hx]at this;have:=iT _ _ this
    rwa [←ALP]at this
   have aO:(b::(Fs1++Fs).flatten)=(b::Fs1.flatten)++Fs.flatten:=by simp
   rw[aO]at how;obtain⟨r1,r2,r3⟩:=OO h kT (w':=w.setCells b (of+drows.length*r.n) css.flatten) (d:=m+1) (by omega) how (fun c hc=> .inl ((AHp.1 hc).elim (hdF c) (hsF c))) ndF
    (fun c hc=>by rw[E7];exact ltF c ((AHp.1 hc).elim (hdF c) (hsF c))) (fun c hc hcF=>T7 c (fun e=>hcF (e▸hbF))) (CN _ _ _ _)
   exact⟨_,_,_,fq,r1,r2,r3⟩
 ·
  have hold:drows.length=0∨ ∃b o,ad=some ⟨b,o,none⟩∧Bp w b o dcss.flatten:=by
   rcases hcase with⟨h0,_⟩|⟨b,of,arr,ty0,fr,rfl,hb,LW,hunf,rfl,hc⟩
   ·exact .inl (by omega)
   ·exact .inr ⟨b,of,rfl,hc⟩
  have fq:=ai (P:=P) (w:=w) (ty:=ty) j8 jc hut hu i1 i4 i2 (fP (P:=P) (cap:=cap) hd.1 hd.2.2.1 hold) hn (by omega) ba (by omega);have pn:=grownCap_ge w (drows.length+Mm.length) cap e
  generalize hgc:grownCap w (drows.length+Mm.length) cap e=gc at fq pn
  let arr:Array Value:=dcss.flatten.toArray++css.flatten.toArray++Builtin.zeroCells z.cells (gc-(drows.length+Mm.length))
  have XQ:arr.toList=(dcss++css).flatten++(Builtin.zeroCells z.cells (gc-(drows.length+Mm.length))).toList:=by simp[arr]
  have hzl:z.cells.size=r.n:=by rw[←ALT,i5,HC]
  have AM_:arr.size=gc*r.n:=by
   simp only[arr,Array.size_append,List.size_toArray,fu,hzl,Vp,hdl,←AJ3];congr 1;omega
  let w':=w.drew.alloc (.cells arr e)
  have new:w'.heap[w.heap.size]? =some (.cells arr e):=by
   show(w.heap.push (.cells arr e))[w.heap.size]? =_
   simp
  have qG:∀c,c<w.heap.size→w'.heap[c]? =w.heap[c]?:=fun c hc=>LV (w:=w) (o:= .cells arr e) hc
  have hR1:∀c∈Fs1.flatten,c∈Fd:=fun c hc=>hp1.mem_iff.2 (by simp only[AHp];exact .inl hc)
  have hd':=hd.mono (w':=w') (S':=E2.S) (fun _ h=>h) (fun c hc=>qG c (Ql.W0 c (Ql.st c hc))) (fun c hc=>qG c (ltF c (hdF c (hR1 c hc))));have wF:=hs.mono (w':=w') (S':=E2.S) (fun _ h=>h) (fun c hc=>qG c (Ql.W0 c (Ql.st c hc))) (fun c hc=>qG c (ltF c (hsF c hc)));have Wt:=hd'.append wF;have how:Ow w' E2.S (m+1) (.sl r) [.slice (some ⟨w.heap.size,0,none⟩) (drows++Mm).length gc] (drows++Mm) (w.heap.size::(Fs1++Fs).flatten):=
   YX new XQ Wt.1 (by rw[AHw];exact pn) (by omega) (aB _) Wt.2.1 Wt.2.2.2
  rw[AHw]at how;have W_:∀c∈(Fs1++Fs).flatten,c∈Fd++Fs.flatten:=by
   intro c hc;rw[AJ4,AHp]at hc;exact AHp.2 (hc.imp (hR1 c) id)
  have nd1:(Fs1++Fs).flatten.Nodup:=by
   rw[AJ4];have n1:=(AHW.1 (hp1.nodup_iff.1 (AHW.1 ndF).1)).1;exact AHW.2 ⟨n1,(AHW.1 ndF).2.1,fun x hx y hy=>(AHW.1 ndF).2.2 x (hR1 x hx) y hy⟩
  have ABe:∀c∈(Fs1++Fs).flatten,c∈F:=fun c hc=>(AHp.1 (W_ c hc)).elim (hdF c) (hsF c)
  obtain⟨r1,r2,r3⟩:=OO h kT (w':=w') (d:=m+1) (by omega) how (by
    intro c hc;rcases AIU.1 hc with rfl|hc
    ·exact .inr (AIi _)
    ·exact .inl (ABe c hc)) (by
    refine ALH.2 ⟨fun hc=> ?_,nd1⟩;have:=ltF _ (ABe _ hc);omega) (by
    intro c hc;rcases AIU.1 hc with rfl|hc
    ·simp[w']
    ·have:=ltF _ (ABe _ hc)
     simp[w'];omega) (fun c hc _=>qG c hc) ⟨rfl,rfl,rfl,by simp[w']⟩
  exact⟨_,_,_,fq,r1,r2,r3⟩
end
end Go.Fw
end
section
namespace Go.Fw
theorem RL{α β:Type}{args:Array α}{f:α→β}{x y:β}(h:args.toList.map f=[x,y]):∃a b,args= #[a,b]∧f a=x∧f b=y:=by
 obtain⟨l⟩:=args
 match l,h with
 |[a,b],h=>simp at h;exact⟨a,b,rfl,h.1,h.2⟩
theorem Qt{α β:Type}{args:Array α}{f:α→β}{x:β}(h:args.toList.map f=[x]):∃a,args= #[a]∧f a=x:=by
 obtain⟨l⟩:=args
 match l,h with
 |[a],h=>simp at h;exact⟨a,rfl,h⟩
section
variable{Y:Type} {P:Program} {T:HE} (hT:DY P T) {o:Oper} {E:Env} {σ:St} {a:Act} {w:World} {k:K Y} {y:Y}
include hT
theorem jh(h:Rel E σ a w){c:Call}{x1 x2:XV}(ho:o.op= .call c)(hc:c.callee= .builtin .append)(GI:c.args.toList.map σ.ev=[x1,x2])(e:WG T c.argTypes σ x1 x2 k=some y):IF P o E σ a w k y:=by
 obtain⟨o1,o2,hargs',rfl,rfl⟩:=RL GI;have U5:=h.ev o1;have UA:=h.ev o2;have exec:∀{v w'},(Builtin.append_ c.argTypes o.type #[a.eval o1,a.eval o2]).run P w= .ok v w'→(execOp a.eval o).run P w= .ok (.value v) w':=by
  intro v w' hr;simp only[execOp,ho,resolve,hc,hargs',invoke,builtin,Sem.run_bind,Sem.run_pure,Result.andThen_ok,List.map_toArray,ALQ,ALv,hr]
 unfold WG at e;split at e
 case h_2=>cases e
 rename_i t u j8 jc;split at e
 case isFalse=>cases e
 rename_i hu;have hu':(∃e,P.underlying u=some (.slice e))∨P.underlying u=some .string:=by
  rw[AJd]at hu;exact hu.imp (ZE hT) (RP hT)
 split at e
 ·
  rename_i z hz1 hz2;rw[hz1]at U5;rw[hz2]at UA;simp only[AGs]at e;obtain⟨⟨r,rows,Ls,d⟩,e1,e⟩:=e;dsimp only at e;split at e
  case isFalse=>cases e
  rename_i T8;split at e
  case isFalse=>cases e
  rename_i ba;obtain⟨hd,E',F,css,Fs,R,kT,hp,hs,hn⟩:=W6 (P:=P) h.bx (DO.refl _) UA e1;obtain⟨m,rfl⟩:∃m,d=m+1:=⟨d-1,by omega⟩;have AJu:a.eval o1= .slice none 0 0:=U5;obtain⟨v,w',E3,hr,r1,r2,r3⟩:=aP hT h (ty:=o.type) j8 jc hu' T8 kT (v1:= .slice none 0 0) (Fd:=[]) (drows:=[]) dd hs hn (R:=R) (by simpa using hp) (by simpa using ba);rw[←AJu]at hr;simp only[AIf]at r1 r3;exact⟨_,_,_,_,_,.inl (exec hr),r1,r3,r2.any,rfl,e⟩
 ·rename_i z1 z2 m8 hz1 hz2
  rw[hz1]at U5;rw[hz2]at UA;simp only[AGs]at e;obtain⟨⟨r,rows,X8,d⟩,e1,e⟩:=e;dsimp only at e;split at e
  case isFalse=>cases e
  rename_i T8;simp only[AGs]at e;obtain⟨⟨q,srows0,TX,ds⟩,e2,Mm,e3,e⟩:=e;dsimp only at e e3;obtain⟨hqr,e4⟩:=Fh e3;subst hqr;subst e4;dsimp only at e;split at e
  case isFalse=>cases e
  rename_i ba;obtain⟨hd,F1,F2,k1,ho1⟩:=XB h.bx (DO.refl _) U5 e1;obtain⟨hds,E',F3,css,Fs,R,k2,hp,hs,hn⟩:=W6 (P:=P) k1.boxes ((DO.refl _).dQ k1) UA e2;obtain⟨m,hm⟩:∃m,min d ds=m+1:=⟨min d ds-1,by omega⟩;rw[hm]at e;obtain⟨A,W1,p1,ho1'⟩:=HJ (d:=m+1) (by omega) ho1;obtain⟨Gs,W2,p2,wF⟩:=hs.weaken (d':=m) (by omega);have hB:=k2.boxes.perm (G':=(A++Gs.flatten++(R++F2))++(W1++W2)++[]) (by
   rw[AH7,AH7];refine((hp.trans (p2.append_right R)).append (p1.append_right F2)).trans ?_
   classical
   rw[ALu];intro c;simp only[List.count_append];omega)
  obtain⟨hle,Ql⟩:=hB.share;have kT:El E w σ.bx σ.bx [] _ TX (A++Gs.flatten++(R++F2)):=⟨(k1.le.trans k2.le).trans hle,k2.len.trans k1.len,fun b B hb=>(k2.within b B hb).elim .inl (k1.within b B),Ql⟩;have ho2:Ow w (fun c=>E'.S c∨c∈W1++W2) (m+1) (.sl q) [a.eval o1] rows A:=
   Cq (fun c hc=>hc.imp (k2.le.S c) (by simp_all)) (fun _ _=>rfl) (fun _ _=>rfl) ho1'
  have wz:Dr w (fun c=>E'.S c∨c∈W1++W2) m q css srows0 Gs:=wF.mono (fun c hc=>hc.imp id (by simp_all)) (fun _ _=>rfl) (fun _ _=>rfl);obtain⟨v,w',E3,hr,r1,r2,r3⟩:=aP hT h (ty:=o.type) j8 jc hu' T8 kT ho2 wz hn (ALw _) ba;exact⟨_,_,_,_,_,.inl (exec hr),r1,r3,r2.any,rfl,e⟩
 ·cases e
end
end Go.Fw
end
section
namespace Go.Fw
theorem bM{P:Program}{w:World}{b o:Nat}{ty:TypeId}{v:Value}(ht:w.there b o v.cells.toList.length)(hi:(P.info? ty).map (·.size)=some v.cells.toList.length)(h1:∀u∈v.cells.toList,u.oneCell' =true):
  (Instr.storeAt ty (.pointer (some ⟨b,o,none⟩)) v).run P w= .ok () (w.setCells b o v.cells.toList):=by
 have:=run_storeCells_cells (P:=P) b o v.cells.toList 0 w (fun j hj=>by simpa using(ht j hj).1) (fun j hj=>by simpa using(ht j hj).2) h1;cases hq:P.info? ty with
 |none=>simp[hq]at hi
 |some i=>
  have hs:v.cells.size=i.size:=by simp[hq]at hi;omega
  simp only[AK1]at this;simp[Instr.storeAt,Instr.sureAddr,storeVar,sizeOf,typeInfo,hq,hs,this]
theorem Ue{E E1 E':Env}{w w':World}{vw X8 Ls:List Bx}{F:AAU}(b0:Nat)(k:El E w vw vw [] E1 X8 F)(st:∀c,E.S c→E.T c)(hlen:vw.length≤Ls.length)
  (Yc:∀b d r rows,b≠b0→b<vw.length→Ls[b]? =some (.sl d r rows)→X8[b]? =some (.sl d r rows)) (iW:∀b,b<vw.length→E'.Fc b=E1.Fc b) (V1:∀b,b<vw.length→E'.Fq b=E1.Fq b) (hT:E'.T=E1.T) (hS:E'.S=E1.S)
  (hw:∀c,c<w.heap.size→c∉F→w'.heap[c]? =w.heap[c]?)
  (h0:∀d r rows,Ls[b0]? =some (.sl d r rows)→ ∃d0 L9,vw[b0]? =some (.sl d0 r L9)∧
   ∀p,CJ r L9 p→ ∀q ys,EY r L9 p=some ⟨q,ys⟩→CJ r rows p∧(∃dS,EY r rows p=some ⟨q,dS⟩∧List.length dS=List.length ys)∧
    ∀h,Gw w (E.Fq b0) p=some h→Gw w' (E'.Fq b0) p=some h):Nk E w vw E' w' Ls:=by
 have hB:=k.boxes;obtain⟨Fs,⟨h1,h2⟩,h3⟩:=hB;simp only[AH7]at h3;have xC:∀c,E1.T c→w'.heap[c]? =w.heap[c]?:=fun c hc=>hw c (h3.W0 c hc) fun hf=>h3.free c (by simp[hf]) hc
 refine⟨hlen,fun b hb=>by rw[iW b hb,k.le.Fc],fun c hc=>by rw[hT];exact k.le.T c hc,fun c hc=>by rw[hS];exact k.le.S c hc,st,fun c hc=>xC c (k.le.T c hc),fun b d r rows hb e=> ?_⟩;by_cases hb0:b=b0
 ·subst hb0
  exact h0 d r rows e
 have e1:=Yc b _ _ _ hb0 hb e;rcases k.within b _ e1 with e2|e2
 ·cases e2
 ·refine⟨d,rows,e2,fun p hp q ys hg=>⟨hp,⟨ys,hg,rfl⟩,fun h' hh=> ?_⟩⟩
  have hF:Fs[b]? =some (Fs[b]'(by have:=(AF9.1 e1).1;omega)):=AGI _;obtain⟨hd,ho⟩:=h2 b _ _ e1 hF;rw[V1 b hb];rw[←k.le.Fq]at hh;refine hI ho (fun c hc=>xC c (h3.st c hc)) (fun c hc=> ?_) hp hg hh;have W_:c∈Fs.flatten:=AIb.2 ⟨_,AH9 hF,hc⟩;exact hw c (h3.lt c (by simp[W_])) fun hf=>(AHW.1 h3.nodup).2.2 c W_ c hf rfl
def Bx.map(f:AV→AV):Bx→Bx
 | .mem cs=> .mem (cs.map f)
 |B=>B
theorem CD.AGG{E E':Env}{w w':World}{vw vw' bx:List Bx}{G:AAU}(f:AV→AV)(h:CD E w vw bx G)(k:∀x v,VR E w vw x v→VR E' w' vw' (f x) v)
  (hS:∀c,E.S c→E'.S c) (iW:∀b,b<bx.length→E'.Fc b=E.Fc b) (V1:∀b,b<bx.length→E'.Fq b=E.Fq b)
  (hw:∀c,(E.S c∨(¬E.T c∧c∉G))→c<w.heap.size→w'.heap[c]? =w.heap[c]?)
  (rU:∀F,Sep E w (F++G)→Sep E' w' (F++G)):CD E' w' vw' (bx.map (Bx.map f)) G:=by
 obtain⟨Fs,⟨hl,h1⟩,h2⟩:=h;refine⟨Fs,⟨by simpa using hl,fun n B F hn hF=> ?_⟩,rU _ h2⟩;rw[AIg,AGV]at hn;obtain⟨B,hn,rfl⟩:=hn;have Dl:=(AF9.1 hn).1;have h3:=h1 n B F hn hF;have lO:∀c∈F,c∈Fs.flatten:=fun c hc=>AIb.2 ⟨F,AH9 hF,hc⟩
 have hFw:∀c∈F,w'.heap[c]? =w.heap[c]?:=fun c hc=>hw c (.inr ⟨h2.free c (by simp[lO c hc]),fun hg=>by
  have:=(AHW.1 h2.nodup).2.2 c (lO c hc) c hg;exact this rfl⟩) (h2.lt c (by simp[lO c hc]))
 have ew:∀c,E.S c→w'.heap[c]? =w.heap[c]?:=fun c hc=>hw c (.inl hc) (h2.W0 c (h2.st c hc))
 cases B with
 |mem cs=>
  obtain⟨rfl,arr,ty,fr,ha,hu,hv⟩:=h3;refine⟨by rw[iW n Dl],arr,ty,fr,?_,hu,Bj.Ie f k hv⟩;rw[iW n Dl,hFw _ (by simp),ha]
 |sl d r rows=>
  obtain⟨hd,ho⟩:=h3;refine⟨hd,?_⟩;rw[V1 n Dl];exact Cq hS ew hFw ho
 |dead=>exact h3
theorem Bx.map_id:∀B:Bx,Bx.map id B=B
 | .mem cs=>by simp[Bx.map]
 | .sl _ _ _=>rfl
 | .dead=>rfl
theorem Tl(bx:List Bx):bx.map (Bx.map id)=bx:=by
 induction bx with
 |nil=>rfl
 |cons B l ih=>simp[ih,Bx.map_id]
theorem aT(b:Nat)(bx:List Bx):bx.map (nA b)=bx.map (Bx.map (G2 b)):=by
 apply ALO;intro B _;cases B<;>rfl
theorem oJ{E:Env}{σ:St}{a:Act}{w:World}(h:Rel E σ a w){b j:Nat}{cs VB:List AV}(hb:σ.bx[b]? =some (.mem cs)){xs:List AV}{vs:List Value}(hx:YB E w σ.bx xs vs)(YU:xs≠[])
  (e:Rl cs j xs=some VB):
  w.there (E.Fc b) j vs.length∧Rel E { σ with bx:=σ.bx.set b (.mem VB) } a (w.setCells (E.Fc b) j vs)∧MV [b] E σ.bx w E (σ.bx.set b (.mem VB)) (w.setCells (E.Fc b) j vs):=by
 have st:=h.bx.st;obtain⟨F,⟨rfl,arr,ty,fr,ha,hu,hv⟩,hB⟩:=h.bx.take hb;simp only[AH7]at hB;have Dl:=(AF9.1 hb).1;rcases Rc hv hx e with⟨h1,h2⟩|⟨h1,_⟩
 case inr=>exact absurd h1 YU
 have Tf:j+vs.length≤arr.size:=by
  have l1:=Bj.len hv;have l2:=Bj.len hx;simp only[ALT]at l1;omega
 have Pu: ¬E.T (E.Fc b):=hB.qf _ (by simp);have hB0:=hB;have T7:∀c,c≠E.Fc b→(w.setCells (E.Fc b) j vs).heap[c]? =w.heap[c]?:=fun c hc=>H8 _ _ _ _ _ hc
 have hw:∀c,c<w.heap.size→c∉[E.Fc b]→(w.setCells (E.Fc b) j vs).heap[c]? =w.heap[c]?:=fun c _ hc=>T7 c (by simpa using hc)
 have kT:El E w σ.bx σ.bx [] E (σ.bx.set b .dead) [E.Fc b]:=⟨Le.refl _,by simp,fun n B hn=>by
  by_cases en:n=b
  ·subst en
   rw[AH0 Dl]at hn;exact .inl (by simpa using hn.symm)
  ·rw[AHF (fun h=>en h.symm)]at hn
   exact .inr hn,by simpa using hB⟩
 have keep:Nk E w σ.bx E (w.setCells (E.Fc b) j vs) (σ.bx.set b (.mem VB)):=Ue b kT st (by simp) (fun n d r rows hn _ hq=>by
   rw[AHF (by omega)]at hq⊢;exact hq) (fun _ _=>rfl) (fun _ _=>rfl) rfl rfl hw (fun d r rows hq=>by
   rw[AH0 Dl]at hq;cases hq)
 refine⟨Yh ha Tf hu,⟨h.Jq,h.tm.imp fun _ _ hq=>Ku keep hq,?_⟩,⟨⟨fun _ h=>h,fun _ h=>h,fun _ h=> .inl h,fun _ h=> .inl h,fun c hc=>T7 c (fun e=>Pu (e▸hc)),(CN _ _ _ _).os,(CN _ _ _ _).tape,(CN _ _ _ _).output,(CN _ _ _ _).size⟩,by simp,fun _ _=>⟨rfl,rfl⟩,fun n hn=>by
  rw[AHF (fun e=>by subst e;rw[hb]at hn;cases hn)];exact hn,fun n B B' ey hB NQ nO=>by
  simp at ey;rw[AHF (fun e=>ey e.symm),hB]at NQ;cases NQ;refine⟨PZ.refl nO,fun c hc=>T7 c (fun e=> ?_)⟩;obtain⟨Fs,⟨f1,f2⟩,f3⟩:=hB0;have Ql:(σ.bx.set b .dead)[n]? =some B:=by rw[AHF (fun e=>ey e.symm)];exact hB
  have hF:Fs[n]? =some (Fs[n]'(by have:=(AF9.1 Ql).1;omega)):=AGI _;rcases Wa (f2 n B _ Ql hF) hc with hs|hs
  ·exact Pu (e▸st c hs)
  ·exact(AHW.1 f3.nodup).2.2 c (AIb.2 ⟨_,AH9 hF,hs⟩) (E.Fc b) (by simp) e⟩⟩
 have hT:=hB.turn (E':=E) (w':=w.setCells (E.Fc b) j vs) (vw':=σ.bx.set b (.mem VB)) (fun x v hq=>D_ keep hq) (fun _ h=>h) (fun _ _=>rfl) (fun _ _=>rfl) (fun c hc _=>T7 c (fun e=>by
   rcases hc with hc|hc
   ·exact Pu (e▸st c hc)
   ·exact hc.2 (by simp[e]))) (fun F hF=>⟨hF.nodup,hF.free,fun c hc=>by rw[E7];exact hF.lt c hc,hF.st,fun c hc=>by rw[E7];exact hF.W0 c hc⟩)
 have:=CD.put (b:=b) (B:= .mem VB) (F:=[E.Fc b]) (G:=[]) (by simpa using hT) (by rw[AH0 Dl]) ⟨rfl,Dv arr j vs,ty,fr,Hi _ _ _ _ _ _ _ ha,by rw[Hg];exact hu,h1.imp fun _ _ hq=>D_ keep hq⟩;rw[ALg]at this;exact this
theorem Qy:∀{r:Ty} {j j':Nat} {x:r.D} {t:Ty} {y:t.D} {x':r.D},Cd r j x t y=some x'→j'≠j→Ah r j' x' =Ah r j' x
 | .cons c r,0,j',x,t,y,x',e,hj=>by
  simp only[Cd]at e;split at e
  ·rename_i h
   subst h;simp only[AGL]at e;subst e;cases j' with
   |zero=>exact absurd rfl hj
   |succ j' =>simp[Ah]
  ·cases e
 | .cons c r,j+1,j',x,t,y,x',e,hj=>by
  simp only[Cd,AGV]at e;obtain⟨z,e1,rfl⟩:=e;cases j' with
  |zero=>simp[Ah]
  |succ j' =>
   simp only[Ah];exact Qy e1 (by omega)
 | .unit,_,_,_,_,_,_,e,_=>by simp[Cd]at e
 | .int k,0,j',x,t,y,x',e,hj=>by cases j' with
  |zero=>exact absurd rfl hj
  |succ j' =>simp[Ah]
 | .bool,0,j',x,t,y,x',e,hj=>by cases j' with
  |zero=>exact absurd rfl hj
  |succ j' =>simp[Ah]
 | .str,0,j',x,t,y,x',e,hj=>by cases j' with
  |zero=>exact absurd rfl hj
  |succ j' =>simp[Ah]
 | .sl _,0,j',x,t,y,x',e,hj=>by cases j' with
  |zero=>exact absurd rfl hj
  |succ j' =>simp[Ah]
 | .int _,_+1,_,_,_,_,_,e,_=>by simp[Cd]at e
 | .bool,_+1,_,_,_,_,_,e,_=>by simp[Cd]at e
 | .str,_+1,_,_,_,_,_,e,_=>by simp[Cd]at e
 | .sl _,_+1,_,_,_,_,_,e,_=>by simp[Cd]at e
theorem PM:∀{r:Ty} {j:Nat} {x:r.D} {t:Ty} {y:t.D} {x':r.D},Cd r j x t y=some x'→Ah r j x' =some ⟨t,y⟩∧ ∃y0:t.D,Ah r j x=some ⟨t,y0⟩
 | .cons c r,0,x,t,y,x',e=>by
  simp only[Cd]at e;split at e
  ·rename_i h
   subst h;simp only[AGL]at e;subst e;exact⟨rfl,_,rfl⟩
  ·cases e
 | .cons c r,j+1,x,t,y,x',e=>by
  simp only[Cd,AGV]at e;obtain⟨z,e1,rfl⟩:=e;simp only[Ah];exact PM e1
 | .unit,_,_,_,_,_,e=>by simp[Cd]at e
 | .int k,0,x,t,y,x',e=>by
  simp only[Cd]at e;split at e
  ·rename_i h;subst h;cases e;exact⟨rfl,_,rfl⟩
  ·cases e
 | .bool,0,x,t,y,x',e=>by
  simp only[Cd]at e;split at e
  ·rename_i h;subst h;cases e;exact⟨rfl,_,rfl⟩
  ·cases e
 | .str,0,x,t,y,x',e=>by
  simp only[Cd]at e;split at e
  ·rename_i h;subst h;cases e;exact⟨rfl,_,rfl⟩
  ·cases e
 | .sl _,0,x,t,y,x',e=>by
  simp only[Cd]at e;split at e
  ·rename_i h;subst h;cases e;exact⟨rfl,_,rfl⟩
  ·cases e
 | .int _,_+1,_,_,_,_,e=>by simp[Cd]at e
 | .bool,_+1,_,_,_,_,e=>by simp[Cd]at e
 | .str,_+1,_,_,_,_,e=>by simp[Cd]at e
 | .sl _,_+1,_,_,_,_,e=>by simp[Cd]at e
theorem ZF{r:Ty}{rows:List r.D}{i k:Nat}{x:r.D}(hi:i<rows.length):rowAt r (rows.set i x) k=if k=i then x else rowAt r rows k:=by
 unfold rowAt;rw[AKg,AKg,AJb];by_cases e:k=i
 ·subst e;simp[hi]
 ·rw[AGU (fun h=>e h.symm),AGU e]
theorem dD:∀{p:List ae} {r:Ty} {rows B3:List r.D} {q:Ty} {ys dS:List q.D},EY r rows p=some ⟨q,ys⟩→dS.length=ys.length→cM r rows p q dS=some B3→B3.length=rows.length
 |[],r,rows,B3,q,ys,dS,h1,h2,h3=>by
  simp only[EY,AGL,AIM]at h1;obtain⟨rfl,h1⟩:=h1;obtain rfl:=AIe h1;simp only[cM,ALs,MT,AGL]at h3;rw[←h3];exact h2
 |s::p,r,rows,B3,q,ys,dS,h1,h2,h3=>by
  simp only[cM]at h3;split at h3
  ·simp only[AGs,AGV]at h3
   obtain⟨_,_,_,_,rfl⟩:=h3;simp
  ·cases h3
theorem aN{t:Ty}(ht:t.scalar=true){y:t.D}{q:Ty}{i j:Nat}:∀{p':List ae} {r:Ty} {rows B3:List r.D} {p:List ae} {ys:List q.D} {T1:q.D},CJ r rows p→EY r rows p=some ⟨q,ys⟩→i<ys.length→
  Cd q j (rowAt q ys i) t y=some T1→cM r rows p q (ys.set i T1)=some B3→CJ r rows p'→ ∀q' zs,EY r rows p' =some ⟨q',zs⟩→
   CJ r B3 p'∧ ∃zs',EY r B3 p' =some ⟨q',zs'⟩∧List.length zs' =List.length zs
 |[],r,rows,B3,p,ys,T1,_,hg,hi,hc,hs,_,q',zs,kV=>by
  simp only[EY,AGL,AIM]at kV;obtain⟨rfl,kV⟩:=kV;obtain rfl:=AIe kV;exact⟨by simp[CJ],B3,by simp[EY],dD hg (by simp) hs⟩
 |s'::p',r,rows,B3,p,ys,T1,hp,hg,hi,hc,hs,hp',q',zs,kV=>by
  have hlen:=dD hg (by simp) hs;simp only[CJ]at hp'⊢;obtain⟨g1,g2,g3⟩:=hp';simp only[EY]at kV⊢;split at kV
  case h_2=>cases kV
  rename_i q0 x0 WC;rw[WC]at g3;dsimp only at g3;have key:∃x1,Ah r s'.j (rowAt r B3 s'.i)=some ⟨.sl q0,x1⟩∧CJ q0 x1 p'∧ ∃zs',EY q0 x1 p' =some ⟨q',zs'⟩∧List.length zs' =List.length zs:=by
   have same:Ah r s'.j (rowAt r B3 s'.i)=some ⟨.sl q0,x0⟩→ ∃x1,Ah r s'.j (rowAt r B3 s'.i)=some ⟨.sl q0,x1⟩∧CJ q0 x1 p'∧ ∃zs',EY q0 x1 p' =some ⟨q',zs'⟩∧List.length zs' =List.length zs:=
    fun h=>⟨x0,h,g3,zs,kV,rfl⟩
   cases p with
   |nil=>
    simp only[EY,AGL,AIM]at hg;obtain⟨rfl,hg⟩:=hg;obtain rfl:=AIe hg;simp only[cM,ALs,MT,AGL]at hs;subst hs;apply same;rw[ZF hi];split
    ·rename_i e
     subst e;by_cases ej:s'.j=j
     ·obtain⟨_,y0,h0⟩:=PM hc
      rw[ej,h0]at WC;simp only[AGL,AIM]at WC;obtain⟨rfl,_⟩:=WC;simp[Ty.scalar]at ht
     ·rw[Qy hc ej];exact WC
    ·exact WC
   |cons s p=>
    simp only[CJ]at hp;obtain⟨k1,k2,k3⟩:=hp;simp only[EY]at hg;split at hg
    case h_2=>cases hg
    rename_i r' x hcx;rw[hcx]at k3;dsimp only at k3;simp only[cM,hcx,AGs,AGV]at hs;obtain⟨x',hs1,row2,wz,rfl⟩:=hs;rw[ZF k1];rw[ZF k1]at same;split
    ·rename_i e
     rw[AGH e]at same;rw[e]at WC;by_cases ej:s'.j=s.j
     ·rw[ej]at WC⊢
      rw[hcx]at WC;simp only[AGL,AIM,Ty.sl.injEq]at WC;obtain⟨rfl,WC⟩:=WC;obtain rfl:=AIe WC;obtain⟨m1,m2⟩:=aN ht k3 hg hi hc hs1 g3 q' zs kV;exact⟨x',(PM wz).1,m1,m2⟩
     ·exact same (by rw[Qy wz ej];exact WC)
    ·rename_i e
     rw[AGU e]at same;exact same WC
  obtain⟨x1,e1,e2,e3⟩:=key;rw[e1];exact⟨⟨by omega,g2,e2⟩,e3⟩
theorem gb{w w':World}{B:Nat→Prop}(SO:∀A,w'.cell? A=w.cell? A∨ ∃v,w'.cell? A=some v∧isSlice v=false):∀{p:List ae} {r:Ty} {h:Value} {rows:List r.D} {hh:Value},
  Rd w' B (.sl r) [h] rows→CJ r rows p→Gw w h p=some hh→Gw w' h p=some hh
 |[],_,h,_,hh,_,_,e=>by rw[B5]at e⊢;exact e
 |s::p,r,h,rows,hh,hr,hp,e=>by
  simp only[CJ]at hp;obtain⟨hi,LW,hp⟩:=hp;simp only[Rd]at hr;obtain⟨a,cap,e1,_,hr⟩:=hr;obtain rfl:=(List.cons.inj e1).1;rcases hr with hr|⟨b,o,rfl,hb,hr⟩
  ·omega
  obtain⟨cs,hl,hc,hrow⟩:=hr s.i _ (L5 hi);split at hp
  case h_2=>exact hp.elim
  rename_i q x WC;obtain⟨v,hv,hrv⟩:=WR hrow WC;have z8:=hc _ _ hv;rw[←LW]at z8;simp only[Gw]at e⊢;split at e
  case h_2=>cases e
  rename_i v0 hv0;rcases SO ⟨b,o+s.i*s.sz+s.j,none⟩with h1|⟨u,h1,h2⟩
  ·rw[h1,hv0]
   rw[h1,hv0]at z8;cases z8;exact gb SO hrv hp e
  ·rw[z8]at h1
   cases h1;simp only[Rd]at hrv;obtain⟨_,_,e2,_⟩:=hrv;simp only[AId,AJo]at e2;subst e2;simp[isSlice]at h2
theorem rp{E E':Env}{w w':World}{vw vw':List Bx}{b d d':Nat}{r:Ty}{rows B3:List r.D}(k:Nk E w vw E' w' (vw'.set b .dead))(hb:vw[b]? =some (.sl d r rows))(nF:vw'[b]? =some (.sl d' r B3))(hl:B3.length=rows.length)
  (hh:E'.Fq b=E.Fq b) {x:AV} {v:Value} (h:VR E w vw x v):VR E' w' vw' (G2 b x) v:=by
 have h1:=D_ k h;have T7:∀{b'},b'≠b→(vw'.set b .dead)[b']? =vw'[b']?:=fun e=>AHF (fun h=>e h.symm)
 cases x with
 |v t x=>exact h1
 |sl s r x=>exact h1
 |nil=>exact h1
 |FW c j=>exact⟨by simpa using h1.1,h1.2⟩
 |J4 s r x j=>exact h1
 |fn f G6=>exact⟨fun c hc=>by simpa using h1.1 c hc,h1.2⟩
 |gD f rows=>exact h1
 |lr=>exact h1
 |undef=>trivial
 |ref c p=>
  cases p with
  |nil=>
   simp only[G2];by_cases e:c=b
   ·subst e
    simp only[VR,hb,nF]at h⊢;refine⟨h.1,by simp[CJ],⟨_,rfl⟩,?_⟩;rw[B5,hh,←B5 (w:=w) (h:=E.Fq c)];exact h.2.2.2
   ·simp only[VR,T7 e]at h1⊢;exact h1
  |cons s p=>
   simp only[G2];split
   ·trivial
   ·rename_i e
    simp only[VR,T7 e]at h1⊢;exact h1
 |VP c p off n=>
  cases p with
  |nil=>
   simp only[G2];by_cases e:c=b
   ·subst e
    simp only[VR,hb,nF]at h⊢;obtain⟨h0,_,q,ys,a,len,cap,e1,e2,e3,e4⟩:=h;simp only[EY,AGL,AIM]at e1;obtain⟨rfl,e1⟩:=e1;obtain rfl:=AIe e1;refine⟨h0,by simp[CJ],r,B3,a,len,cap,rfl,by rw[hl];exact e2,?_,e4⟩;rw[B5,hh,←B5 (w:=w) (h:=E.Fq c)];exact e3
   ·simp only[VR,T7 e]at h1⊢;exact h1
  |cons s p=>
   simp only[G2];split
   ·trivial
   ·rename_i e
    simp only[VR,T7 e]at h1⊢;exact h1
 |Gq c p i sz j=>
  cases p with
  |nil=>
   simp only[G2];by_cases e:c=b
   ·subst e
    simp only[VR,hb,nF]at h⊢;obtain⟨h0,_,q,ys,bb,o,len,cap,e1,e2,e3,e4⟩:=h;simp only[EY,AGL,AIM]at e1;obtain⟨rfl,e1⟩:=e1;obtain rfl:=AIe e1;refine⟨h0,by simp[CJ],r,B3,bb,o,len,cap,rfl,by rw[hl];exact e2,?_,e4⟩;rw[B5,hh,←B5 (w:=w) (h:=E.Fq c)];exact e3
   ·simp only[VR,T7 e]at h1⊢;exact h1
  |cons s p=>
   simp only[G2];split
   ·trivial
   ·rename_i e
    simp only[VR,T7 e]at h1⊢;exact h1
theorem rr{E E':Env}{w w':World}{vw vw':List Bx}{b:Nat}(k:∀x v,VR E w vw x v→VR E' w' vw' (G2 b x) v){x:XV}{v:Value}(h:XR E w vw x v):XR E' w' vw' (iZ b x) v:=by
 cases x with
 |c x=>exact k x v h
 |agg l=>
  obtain⟨vs,rfl,RH⟩:=h;exact⟨vs,rfl,Bj.Ie _ k RH⟩
 |Jy l=>
  obtain⟨vs,rfl,RH⟩:=h;refine⟨vs,rfl,Bj.Ie _ (fun x v hx=> ?_) RH⟩;cases x with
  |inl x=>exact k x v hx
  |inr q=>
   obtain⟨us,rfl,hus⟩:=hx;exact⟨us,rfl,Bj.Ie _ k hus⟩
end Go.Fw
end
section
namespace Go.Fw
theorem dY{w:World}{vw:List Bx}{E:Env}{bx:List Bx}{G:AAU}(h:CD E w vw bx G)(hw:DO bx vw){d:Nat}(hd:1≤d){q:Ty}{old:q.D}{j:Nat}{x:XV}{v:Value}(hv:XR E w vw x v){T1:q.D}{Ls:List Bx}{d':Nat}
  (e:dX d q old j x bx=some (T1,Ls,d')):1≤d'∧d'≤d∧ ∃E' F,El E w vw bx G E' Ls F∧
   ((j=0∧x.plain=false∧Ow w E'.S (d'-1) q v.cells.toList T1 F)∨(∃t y,v.cells.toList=[v]∧Ow w E'.S (d'-1) t [v] y F∧Cd q j old t y=some T1∧(x.plain=true→t.scalar=true∧isSlice v=false))):=by
 unfold dX at e;split at e
 ·rename_i l
  split at e
  case isFalse=>cases e
  rename_i hj;obtain⟨vs,rfl,RH⟩:=hv;obtain⟨h1,h2,E',F,h3,h4⟩:=TV h hw hd RH e;exact⟨h1,h2,E',F,h3,.inl ⟨hj,rfl,h4⟩⟩
 ·rename_i x
  split at e
  case h_2=>cases e
  rename_i t y0 hc;simp only[AGs,AGV,AIh]at e;obtain⟨⟨y,X8,d1⟩,e1,row,e2,rfl,rfl,rfl⟩:=e;dsimp only at e2;have VD:VR E w vw x v:=hv;have hk:x.known=true:=by cases x<;>simp_all[AV.known,Vx]
  obtain⟨h1,h2,E',F,h3,h4⟩:=UD h hw hd VD e1;refine⟨h1,h2,E',F,h3,.inr ⟨t,y,by rw[(iM VD hk).2],h4,e2,fun hp=> ?_⟩⟩;cases x with
  |v u z=>
   simp only[Vx,AGV,AIh]at e1;obtain⟨z',e3,_⟩:=e1;obtain⟨rfl,_⟩:=Fh e3;obtain⟨hs,hr⟩:=VD;refine⟨hs,?_⟩;cases u<;>simp_all[Ty.scalar,Rd]<;>rfl
  |_=>simp[XV.plain]at hp
 ·cases e
theorem dE{f:AV→AV}{bx:List Bx}{b d:Nat}{r:Ty}{rows:List r.D}:(bx.set b (.sl d r rows)).map (Bx.map f)=(bx.map (Bx.map f)).set b (.sl d r rows):=by
 rw[List.map_set];rfl
theorem sA{f:AV→AV}{bx:List Bx}{n d:Nat}{r:Ty}{rows:List r.D}(h:(bx.map (Bx.map f))[n]? =some (.sl d r rows)):bx[n]? =some (.sl d r rows):=by
 rw[AIg,AGV]at h;obtain⟨B,h1,h2⟩:=h;cases B with
 |mem cs=>simp[Bx.map]at h2
 |sl d' r' B3=>rw[h1];exact congrArg some h2
 |dead=>simp[Bx.map]at h2
theorem gH{E:Env}{σ:St}{a:Act}{w:World}(h:Rel E σ a w){b i sz j:Nat}{p:List ae}{va v:Value}(wI:VR E w σ.bx (.Gq b p i sz j) va){x:XV}(hv:XR E w σ.bx x v)(h1c:∀u∈v.cells.toList,u.oneCell' =true)
  {σ':St} (e:XZ σ (.c (.Gq b p i sz j)) x=some σ'):
  ∃bb oo E',va= .pointer (some ⟨bb,oo,none⟩)∧w.there bb oo v.cells.toList.length∧Rel E' σ' a (w.setCells bb oo v.cells.toList)∧MV [b] E σ.bx w E' σ'.bx (w.setCells bb oo v.cells.toList)∧σ'.tm.length=σ.tm.length:=by
 simp only[XZ]at e;split at e
 case h_2=>cases e
 rename_i d r rows hb;split at e
 case isFalse=>cases e
 rename_i pz;simp only[AGs]at e;obtain⟨⟨q,ys⟩,hg,e⟩:=e;dsimp only at e;split at e
 case isFalse=>cases e
 rename_i LW;simp only[AGs,AGV]at e;obtain⟨⟨T1,TX,d2⟩,e1,B3,e2,e3⟩:=e;dsimp only at e1 e2 e3;have st:=h.bx.st;simp only[VR,hb]at wI;obtain⟨_,hp,q1,ys1,bb,o,len,cap,g1,hi,g3,rfl⟩:=wI;rw[hg]at g1;simp only[AGL,AIM]at g1;obtain⟨rfl,g1⟩:=g1;obtain rfl:=AIe g1;have Dl:=(AF9.1 hb).1;obtain⟨Gb,⟨hd1,ho⟩,hB⟩:=h.bx.take hb;have XT:DO (σ.bx.set b .dead) σ.bx:=fun n B hn=>by
  by_cases en:n=b
  ·subst en
   rw[AH0 Dl]at hn;exact .inl (by simpa using hn.symm)
  ·rw[AHF (fun h=>en h.symm)]at hn
   exact .inr hn
 obtain⟨hd2,hd3,E1,Fx,k1,hrow⟩:=dY hB XT (by omega) hv e1;obtain⟨A,W,pG,ho2⟩:=HJ (d:=d2+p.length) (by omega) ho;have Ql:=k1.boxes.perm (G':=(Fx++A)++W++[]) (by
  rw[AH7,AH7,AGq];exact AIZ _ pG)
 obtain⟨hle,hB3⟩:=Ql.share;simp only[AH7]at hB3
 generalize hE3:({ E1 with S:=fun c=>E1.S c∨c∈W,T:=fun c=>E1.T c∨c∈W }:Env)=E3 at hle hB3
 have bF:Le E E3:=k1.le.trans hle;have ho3:Ow w E3.S (d2+p.length) (.sl r) [E.Fq b] rows A:=Cq (fun c hc=>by
  subst hE3;exact hc.imp (k1.le.S c) id) (fun _ _=>rfl) (fun _ _=>rfl) ho2
 obtain⟨h',F1,F2,m1,m2,m3,m4⟩:=dz ho3 hp hg (by omega);rw[g3]at m1;cases m1;obtain⟨m,rfl⟩:∃m,d2=m+1:=⟨d2-1,by omega⟩;rw[show m+1+p.length-p.length=m+1 by omega]at m2 m4;simp only[Nat.add_sub_cancel]at hrow;obtain⟨b1,o1,arr,ty,fr,cs,G,R,n1,n2,n3,n4,n5,n6,n7,n8,n9⟩:=iD m2 hi;simp only[AGL,Addr.mk.injEq,AJo]at n1;obtain⟨rfl,rfl⟩:=n1;subst LW;have hAp:A.Perm (G++(bb::R)++F2):=m3.trans (n8.append_right F2);obtain⟨Fs,hFs1,hFs2⟩:=hB3;have hbA:bb∈A:=hAp.mem_iff.2 (by simp);have Pu: ¬E3.T bb:=hFs2.free bb (by simp[hbA]);have eH: ¬E3.S bb:=fun hc=>Pu (hFs2.st bb hc)
 have nd:(Fx++(G++(bb::R)++F2)).Nodup:=(AIZ Fx hAp).nodup_iff.1 (AHW.1 hFs2.nodup).2.1;have hnx:bb∉Fx:=fun hc=>(AHW.1 nd).2.2 bb hc bb (by simp) rfl
 have hnG:bb∉G:=fun hc=>(AHW.1 (AHW.1 (AHW.1 nd).2.1).1).2.2 bb hc bb (by simp) rfl
 have hnR:bb∉R:=(ALH.1 (AHW.1 (AHW.1 (AHW.1 nd).2.1).1).2.1).1;have hn2:bb∉F2:=fun hc=>(AHW.1 (AHW.1 nd).2.1).2.2 bb (by simp) bb hc rfl
 have Vp:j+v.cells.toList.length≤q.n:=by
  rcases hrow with⟨rfl,_,ho4⟩|⟨t,y,yN,ho4,PX,_⟩
  ·rw[Q8 ho4];omega
  ·rw[yN]
   obtain⟨_,y0,hc0⟩:=PM PX;obtain⟨u,_,_,hu,_⟩:=WW n7 hc0;have:=(AF9.1 hu).1;simp;omega
 have Tf:o+i*q.n+j+v.cells.toList.length≤arr.size:=by omega
 let w':=w.setCells bb (o+i*q.n+j) v.cells.toList
 have T7:∀c,c≠bb→w'.heap[c]? =w.heap[c]?:=fun c hc=>H8 _ _ _ _ _ hc
 have ew:∀c,E3.S c→w'.heap[c]? =w.heap[c]?:=fun c hc=>T7 c (fun e=>eH (e▸hc))
 have nF:=Hi v.cells.toList (o+i*q.n+j) w bb arr ty fr n2;have SO:∃VB G' D0,VB.length=q.n∧Bp w' bb (o+i*q.n) VB∧Ow w' E3.S m q VB T1 G'∧(Fx++G).Perm (G'++D0):=by
  rcases hrow with⟨rfl,_,ho4⟩|⟨t,y,yN,ho4,PX,_⟩
  ·refine⟨v.cells.toList,Fx,G,Q8 ho4,PG n2 Tf,Cq (fun c hc=>hle.S c hc) (fun c hc=>T7 c (fun e=>eH (e▸hle.S c hc))) (fun c hc=>T7 c (fun e=>hnx (e▸hc))) ho4,ALw _⟩
  ·obtain⟨_,y0,hc0⟩:=PM PX
   obtain⟨u,K1,K2,z1,z2,z3,z4⟩:=WW n7 hc0;have AKJ:bb∉K2:=fun hc=>hnG (z3.mem_iff.2 (by simp[hc]))
   obtain⟨F',f1,f2⟩:=z4 w' E3.S v y Fx T1 (fun _ hc=>hc) ew (fun c hc=>T7 c (fun e=>AKJ (e▸hc)))
    (Cq (fun c hc=>hle.S c hc) (fun c hc=>T7 c (fun e=>eH (e▸hle.S c hc))) (fun c hc=>T7 c (fun e=>hnx (e▸hc))) ho4) PX
   refine⟨cs.set j v,F',K1,by simpa using n5,fun x u' hx=> ?_,f2,?_⟩
   ·rw[AJb]at hx
    split at hx
    ·rename_i ejx
     subst ejx;split at hx
     ·cases hx
      have:=PG (w:=w) (b:=bb) (o:=o+i*q.n+j) (vs:=v.cells.toList) n2 Tf 0 v (by rw[yN];rfl);simpa using this
     ·cases hx
    ·rename_i ejx
     have hold:=n6 x u' hx;rw[JS n2]at hold;rw[JS nF,Qi Tf,AGU (fun hh=>by rw[yN]at hh;simp only[AHh,AIT]at hh;omega),hold]
   ·refine(AIZ Fx z3).trans ?_
    refine List.Perm.trans ?_ (f1.symm.append_right K1)
    rw[AGq];exact AIZ _ AIa
 obtain⟨VB,G',D0,c1,c2,c3,c4⟩:=SO;obtain⟨aG,f1,f2⟩:=n9 w' E3.S (Dv arr (o+i*q.n+j) v.cells.toList) VB T1 G' (fun _ hc=>hc) ew (fun c hc=>T7 c (fun e=>hnR (e▸hc))) nF (Hg _ _ _) (fun k hk=>by
  rw[Qi Tf,AGU (by omega)]) c1 c2 c3
 obtain⟨F',f3,f4⟩:=m4 w' E3.S (ys.set i T1) aG B3 (fun _ hc=>hc) ew (fun c hc=>T7 c (fun e=>hn2 (e▸hc))) f2 e2;have aO:(Fx++A).Perm (F'++D0):=by
  have p1:F'.Perm (G'++(bb::R)++F2):=f3.trans (f1.append_right F2);refine(AIZ Fx hAp).trans (List.Perm.trans ?_ (p1.symm.append_right D0))
  classical
  rw[ALu];intro c;have h4:=(ALu.1 c4) c;simp only[List.count_append]at h4⊢;omega
 have AKd:bb∈F':=(f3.trans (f1.append_right F2)).mem_iff.2 (by simp);have hB4:CD E3 w σ.bx TX F':=by
  have:CD E3 w σ.bx TX (F'++D0):=CD.perm (G:=Fx++A) ⟨Fs,hFs1,hFs2⟩ aO;exact this.drop
 have aV:TX.length=σ.bx.length:=by rw[k1.len];simp
 have AHS:TX[b]? =some .dead:=by
  obtain⟨B,hB⟩:∃B,TX[b]? =some B:=⟨_,AGI (by omega)⟩;rcases k1.within b B hB with e|e
  ·rw[hB,e]
  ·rw[AH0 Dl]at e;rw[hB];exact e.symm
 have hrl:B3.length=rows.length:=dD hg (by simp) e2;have kT:∀E0,Le E0 E3→El E0 w σ.bx σ.bx [] E3 TX (Fx++A):=fun E0 hl=>⟨hl,aV,fun n B hn=>by
  rcases k1.within n B hn with e|e
  ·exact .inl e
  ·exact(XT n B e),⟨Fs,hFs1,by simpa using hFs2⟩⟩
 have V1:∀n,E3.Fq n=E.Fq n:=fun n=>by rw[bF.Fq]
 have hww:∀c,c<w.heap.size→c∉Fx++A→w'.heap[c]? =w.heap[c]?:=fun c _ hc=>T7 c (fun e=>hc (by rw[e];simp[hbA]))
 have base:Wr E w E3 w':=⟨bF.T,bF.S,bF.sb,bF.nJ,fun c hc=>T7 c (fun e=>Pu (e▸bF.T c hc)),(CN _ _ _ _).os,(CN _ _ _ _).tape,(CN _ _ _ _).output,(CN _ _ _ _).size⟩;have finish:∀(f:AV→AV) (g:XV→XV),(∀E0,Le E0 E3→(∀c,E0.S c→E0.T c)→ ∀x v,VR E0 w σ.bx x v→VR E3 w' ((TX.map (Bx.map f)).set b (.sl (m+1+p.length) r B3)) (f x) v)→
   (∀x v,XR E w σ.bx x v→XR E3 w' ((TX.map (Bx.map f)).set b (.sl (m+1+p.length) r B3)) (g x) v)→
   Rel E3 { tm:=σ.tm.map g,bx:=(TX.map (Bx.map f)).set b (.sl (m+1+p.length) r B3) } a w':=by
  intro f g hf hg;refine⟨h.Jq,Bj.Ie _ hg h.tm,?_⟩;have hT:=hB4.AGG (E':=E3) (w':=w') (vw':=(TX.map (Bx.map f)).set b (.sl (m+1+p.length) r B3)) f (hf E3 (Le.refl _) hFs2.st) (fun _ h=>h) (fun _ _=>rfl) (fun _ _=>rfl) (fun c hc _=>T7 c (fun e=>by
    rcases hc with hc|hc
    ·exact eH (e▸hc)
    ·exact hc.2 (by rw[e];exact AKd))) (fun F hF=>⟨hF.nodup,hF.free,fun c hc=>by rw[E7];exact hF.lt c hc,hF.st,fun c hc=>by rw[E7];exact hF.W0 c hc⟩)
  refine CD.put (F:=F') (G:=[]) (by simpa using hT) (by rw[AIg,AHS];rfl) ⟨by omega,?_⟩;rw[V1];exact f4
 have yX:∀f:AV→AV,MV [b] E σ.bx w E3 ((TX.map (Bx.map f)).set b (.sl (m+1+p.length) r B3)) w':=fun f=>⟨base,by simp[aV],fun n _=>⟨by rw[bF.Fc],V1 n⟩,fun n hn=>by
  have ey:n≠b:=fun e=>by subst e;rw[hb]at hn;cases hn
  have jH:=(AF9.1 hn).1;rw[AHF (fun e=>ey e.symm),AIg];obtain⟨B,hB⟩:∃B,TX[n]? =some B:=⟨_,AGI (by omega)⟩;have hBd:B= .dead:=by
   rcases(kT E bF).within n B hB with e|e
   ·exact e
   ·rw[hn]at e;cases e;rfl
  rw[hB,hBd];rfl,fun n B B' ey hB NQ nO=>by
  simp at ey;have jH:=(AF9.1 hB).1;rw[AHF (fun e=>ey e.symm),AIg]at NQ;obtain⟨B2,Ql⟩:∃B2,TX[n]? =some B2:=⟨_,AGI (by omega)⟩;rw[Ql]at NQ;have NQ:Bx.map f B2=B':=by simpa using NQ
  have hBB:B2=B:=by
   rcases(kT E bF).within n B2 Ql with e|e
   ·subst e;exact absurd NQ.symm nO
   ·rw[hB]at e;cases e;rfl
  subst hBB;refine⟨?_,fun c hc=>T7 c (fun e=> ?_)⟩
  ·subst NQ
   cases B2 with
   |mem cs=>trivial
   |sl d r rows=>rfl
   |dead=>exact absurd rfl nO
  ·have hF:Fs[n]? =some (Fs[n]'(by have:=(AF9.1 Ql).1;rw[hFs1.1];exact this)):=AGI _
   have W7:kt E3 w n B2 c:=by
    cases B2 with
    |mem cs=>simp only[kt]at hc⊢;rw[bF.Fc];exact hc
    |sl d r rows=>simp only[kt]at hc⊢;rw[V1];exact hc
    |dead=>exact hc
   rcases Wa (hFs1.2 n B2 _ Ql hF) W7 with hs|hs
   ·exact eH (e▸hs)
   ·exact(AHW.1 hFs2.nodup).2.2 c (AIb.2 ⟨_,AH9 hF,hs⟩) bb (by simp[hbA]) e⟩
 refine⟨bb,o+i*q.n+j,E3,rfl,Yh (k:=0) n2 Tf n3,?_,?_,?_⟩
 ·split at e3
  ·rename_i AG5
   have h0:∀E0,Le E0 E3→(∀c,E0.S c→E0.T c)→Nk E0 w σ.bx E3 w' (TX.set b (.sl (m+1+p.length) r B3)):=by
    intro E0 hl st0;refine Ue b (kT E0 hl) st0 (by simp[aV]) (fun n d r rows hn _ hq=>by
      rw[AHF (fun e=>hn e.symm)]at hq;exact hq) (fun _ _=>rfl) (fun _ _=>rfl) rfl rfl hww (fun d0 r0 L9 hq=> ?_)
    rw[AH0 (by omega)]at hq;simp only[AGL,Bx.sl.injEq]at hq;obtain⟨rfl,rfl,hq⟩:=hq;obtain rfl:=AIe hq;refine⟨d,rows,hb,fun p' hp' q' zs kV=> ?_⟩;rcases hrow with⟨_,hpf,_⟩|⟨t,y,yN,ho4,PX,hsc⟩
    ·rw[AG5]at hpf;cases hpf
    obtain⟨hs1,wz⟩:=hsc AG5;have hk:=aN hs1 hp hg hi PX e2 hp' q' zs kV;refine⟨hk.1,hk.2,fun hh hhe=> ?_⟩;rw[V1];rw[←hl.Fq,V1]at hhe;refine gb (fun Ad=> ?_) (SE f4) hk.1 hhe;by_cases eA:Ad.block=bb∧Ad.spot=none∧Ad.off=o+i*q.n+j
    ·right
     obtain⟨ab,ao,asp⟩:=Ad;simp only at eA;rw[eA.1,eA.2.1,eA.2.2];refine⟨v,?_,wz⟩;have:=PG (w:=w) (b:=bb) (o:=o+i*q.n+j) (vs:=v.cells.toList) n2 Tf 0 v (by rw[yN];rfl);simpa using this
    ·left
     refine World.cell?_setCells_out bb v.cells.toList (o+i*q.n+j) w Ad (fun q1 q2=> ?_)
     rw[yN];simp only[AHh,AIT];have:Ad.off≠o+i*q.n+j:=fun q3=>eA ⟨q1,q2,q3⟩
     omega
   have:=finish id id (fun E0 hl st0 x v hx=>by rw[Tl];exact D_ (h0 E0 hl st0) hx) (fun x v hx=>by rw[Tl];exact Ku (h0 E bF st) hx);rw[Tl,List.map_id]at this;rw[←e3];exact this
  ·have h0:∀E0,Le E0 E3→(∀c,E0.S c→E0.T c)→ ∀x v,VR E0 w σ.bx x v→VR E3 w' ((TX.map (Bx.map (G2 b))).set b (.sl (m+1+p.length) r B3)) (G2 b x) v:=by
    intro E0 hl st0 x v hx;have keep:Nk E0 w σ.bx E3 w' (((TX.map (Bx.map (G2 b))).set b (.sl (m+1+p.length) r B3)).set b .dead):=by
     refine Ue b (kT E0 hl) st0 (by simp[aV]) (fun n d r rows hn _ hq=>by
      rw[AHF (fun e=>hn e.symm),AHF (fun e=>hn e.symm)]at hq;exact sA hq) (fun _ _=>rfl) (fun _ _=>rfl) rfl rfl hww (fun d0 r0 L9 hq=> ?_)
     rw[AH0 (by simp;omega)]at hq;cases hq
    exact rp keep hb (by rw[AH0 (by simp;omega)]) hrl (by rw[hl.Fq]) hx
   have:=finish (G2 b) (iZ b) h0 (fun x v hx=>rr (h0 E bF st) hx);rw[←e3];simp only[St.mb];rw[aT,dE];exact this
 ·rw[←e3]
  split
  ·have:=yX id
   rw[Tl]at this;exact this
  ·simp only[St.mb]
   rw[aT,dE];exact yX _
 ·rw[←e3]
  split<;>simp[St.mb]
end Go.Fw
end
section
namespace Go.Fw
theorem bj{w w':World}{B B':Nat→Prop}:∀{r:Ty} {cs:List Value} {x:r.D},r.flat=true→Rd w B r cs x→Rd w' B' r cs x
 | .cons c r,cs,x,h,hr=>by
  simp only[Ty.flat,AGx]at h;simp only[Rd]at hr⊢;obtain⟨v,l,rfl,h1,h2⟩:=hr;exact⟨v,l,rfl,bj h.1 h1,bj h.2 h2⟩
 | .unit,_,_,_,hr=>by simpa only[Rd]using hr
 | .int k,_,_,_,hr=>by simpa only[Rd]using hr
 | .bool,_,_,_,hr=>by simpa only[Rd]using hr
 | .str,_,_,_,hr=>by simpa only[Rd]using hr
 | .sl q,_,_,h,_=>by simp[Ty.flat]at h
theorem Vz{w:World}{S:Nat→Prop}{d:Nat}:∀{r:Ty} {cs:List Value} {y:r.D} {F:AAU},r.flat=true→Ow w S d r cs y F→F=[]
 | .int k,_,_,_,_,h=>by simp only[Ow]at h;exact h.2
 | .bool,_,_,_,_,h=>by simp only[Ow]at h;exact h.2
 | .str,_,_,_,_,h=>by simp only[Ow]at h;exact h.2
 | .unit,_,_,_,_,h=>by simp only[Ow]at h;exact h.2
 | .cons c r,_,_,_,hf,h=>by
  simp only[Ty.flat,AGx]at hf;simp only[Ow]at h;obtain⟨v,l,F1,F2,_,rfl,h1,h2⟩:=h;rw[Vz hf.1 h1,Vz hf.2 h2];rfl
 | .sl q,_,_,_,hf,_=>by simp[Ty.flat]at hf
theorem kL{w w':World}{S S':Nat→Prop}{d d':Nat}{r:Ty}(hr:r.flat=true){cs:List Value}{y:r.D}{F:AAU}(h:Ow w S d r cs y F):F=[]∧cs.length=r.n∧Ow w' S' d' r cs y []:=
 ⟨Vz hr h,Q8 h,YZ hr (bj (B':=fun _=>False) hr (SE h))⟩
theorem YY:∀{r:Ty} {j:Nat} {x:r.D} {t:Ty} {y:t.D},r.flat=true→Ah r j x=some ⟨t,y⟩→t.flat=true
 | .cons c r,0,x,t,y,h,e=>by
  simp only[Ty.flat,AGx]at h;simp only[Ah,AGL,AIM]at e;obtain⟨rfl,_⟩:=e;exact h.1
 | .cons c r,j+1,x,t,y,h,e=>by
  simp only[Ty.flat,AGx]at h;simp only[Ah]at e;exact YY h.2 e
 | .unit,_,_,_,_,_,e=>by simp[Ah]at e
 | .int k,0,x,t,y,_,e=>by simp only[Ah,AGL,AIM]at e;obtain⟨rfl,_⟩:=e;rfl
 | .bool,0,x,t,y,_,e=>by simp only[Ah,AGL,AIM]at e;obtain⟨rfl,_⟩:=e;rfl
 | .str,0,x,t,y,_,e=>by simp only[Ah,AGL,AIM]at e;obtain⟨rfl,_⟩:=e;rfl
 | .sl _,_,_,_,_,h,_=>by simp[Ty.flat]at h
 | .int _,_+1,_,_,_,_,e=>by simp[Ah]at e
 | .bool,_+1,_,_,_,_,e=>by simp[Ah]at e
 | .str,_+1,_,_,_,_,e=>by simp[Ah]at e
theorem ot{r:Ty}(hr:r.flat=true){rows:List r.D}:∀{p:List ae},CJ r rows p→p=[]
 |[],_=>rfl
 |s::p,h=>by
  simp only[CJ]at h;obtain⟨_,_,h⟩:=h;exfalso;cases hc:Ah r s.j (rowAt r rows s.i)with
  |none=>rw[hc]at h;exact h
  |some tx=>
   obtain⟨t,x⟩:=tx;have hf:=YY hr hc;rw[hc]at h;cases t<;>simp_all[Ty.flat]
theorem flatten_nil{l:List AAU}(h:∀x∈l,x=[]):l.flatten=[]:=by
 induction l with
 |nil=>rfl
 |cons x l ih=>
  rw[AI2,h x (by simp),ih (fun y hy=>h y (by simp[hy]))];rfl
theorem oI{E:Env}{σ:St}{a:Act}{w:World}(h:Rel E σ a w){b d off n:Nat}{r:Ty}{rows:List r.D}(hb:σ.bx[b]? =some (.sl d r rows))(hr:r.flat=true)(hgd:r.iI=true)(hk:0<r.n)(hl:off+n≤rows.length)(hn:0<n):
  ∃bb o cap,E.Fq b= .slice (some ⟨bb,o,none⟩) rows.length cap∧rows.length≤cap∧w.there bb (o+off*r.n) (n*r.n)∧
   Rel E { σ with bx:=σ.bx.set b (.sl d r ((rows.take off++List.replicate n r.z)++rows.drop (off+n))) } a (w.setCells bb (o+off*r.n) (List.replicate n (EA r)).flatten)∧
   MV [b] E σ.bx w E (σ.bx.set b (.sl d r ((rows.take off++List.replicate n r.z)++rows.drop (off+n)))) (w.setCells bb (o+off*r.n) (List.replicate n (EA r)).flatten):=by
 have st:=h.bx.st;obtain⟨F,⟨hd,ho⟩,hB⟩:=h.bx.take hb;simp only[AH7]at hB;have Dl:=(AF9.1 hb).1;obtain⟨d',rfl⟩:∃m,d=m+1:=⟨d-1,by omega⟩;simp only[Ow]at ho;obtain⟨ad,cap,hh,qd,ho⟩:=ho;simp only[AId,AJo]at hh;rcases ho with⟨rfl,_⟩|⟨bb,o,arr,ty,fr,Fs,rfl,ha,LW,hu,rfl,hFl,U_⟩
 ·omega
 have hFn:List.flatten Fs=[]:=flatten_nil fun x hx=>by
  obtain⟨i,hi,hxi⟩:=AJE hx;obtain⟨cs,_,_,h3⟩:=U_ i (rows[i]'(by omega)) x (AGI _) (by rw[AGI hi,hxi]);exact(kL (w':=w) (S':=E.S) (d':=0) hr h3).1
 rw[hFn]at hB;have hzl:(EA r).length=r.n:=HC r;have hvl:((List.replicate n (EA r)).flatten).length=n*r.n:=by rw[DW,hzl]
 have pk:(off+n)*r.n≤cap*r.n:=AIq _ (by omega);have hm2:(off+n)*r.n=off*r.n+n*r.n:=AJ3 ..;have Tf:o+off*r.n+((List.replicate n (EA r)).flatten).length≤arr.size:=by omega
 generalize RH:(List.replicate n (EA r)).flatten=vs at hvl Tf
 refine⟨bb,o,cap,hh,qd,Yh ha (by omega) hu,?_⟩;have Pu: ¬E.T bb:=hB.qf _ (by simp);have hB0:=hB;have T7:∀c,c≠bb→(w.setCells bb (o+off*r.n) vs).heap[c]? =w.heap[c]?:=fun c hc=>H8 _ _ _ _ _ hc
 have hw:∀c,c<w.heap.size→c∉[bb]→(w.setCells bb (o+off*r.n) vs).heap[c]? =w.heap[c]?:=fun c _ hc=>T7 c (by simpa using hc)
 have kT:El E w σ.bx σ.bx [] E (σ.bx.set b .dead) [bb]:=⟨Le.refl _,by simp,fun n B hn=>by
  by_cases en:n=b
  ·subst en
   rw[AH0 Dl]at hn;exact .inl (by simpa using hn.symm)
  ·rw[AHF (fun h=>en h.symm)]at hn
   exact .inr hn,by simpa using hB⟩
 generalize lN:(rows.take off++List.replicate n r.z)++rows.drop (off+n)=B3
 have AAm:B3.length=rows.length:=by
  rw[←lN];simp;omega
 have keep:Nk E w σ.bx E (w.setCells bb (o+off*r.n) vs) (σ.bx.set b (.sl (d'+1) r B3)):=Ue b kT st (by simp) (fun n d r rows hn _ hq=>by
   rw[AHF (by omega)]at hq⊢;exact hq) (fun _ _=>rfl) (fun _ _=>rfl) rfl rfl hw (fun d1 r1 z_ hq=>by
   rw[AH0 Dl]at hq;simp only[AGL,Bx.sl.injEq]at hq;obtain⟨rfl,rfl,hq⟩:=hq;obtain rfl:=AIe hq;refine⟨d'+1,rows,hb,fun p hp q ys hg=> ?_⟩;obtain rfl:=ot hr hp;simp only[EY,AGL,AIM]at hg;obtain⟨rfl,hg⟩:=hg;obtain rfl:=AIe hg;exact⟨by simp[CJ],⟨B3,by simp[EY],AAm⟩,fun h' hh' =>hh'⟩)
 refine⟨⟨h.Jq,h.tm.imp fun _ _ hq=>Ku keep hq,?_⟩,⟨⟨fun _ h=>h,fun _ h=>h,fun _ h=> .inl h,fun _ h=> .inl h,fun c hc=>T7 c (fun e=>Pu (e▸hc)),(CN _ _ _ _).os,(CN _ _ _ _).tape,(CN _ _ _ _).output,(CN _ _ _ _).size⟩,by simp,fun _ _=>⟨rfl,rfl⟩,fun n hn=>by
  rw[AHF (fun e=>by subst e;rw[hb]at hn;cases hn)];exact hn,fun n B B' ey hB NQ nO=>by
  simp at ey;rw[AHF (fun e=>ey e.symm),hB]at NQ;cases NQ;refine⟨PZ.refl nO,fun c hc=>T7 c (fun e=> ?_)⟩;obtain⟨Fs,⟨f1,f2⟩,f3⟩:=hB0;have Ql:(σ.bx.set b .dead)[n]? =some B:=by rw[AHF (fun e=>ey e.symm)];exact hB
  have hF:Fs[n]? =some (Fs[n]'(by have:=(AF9.1 Ql).1;omega)):=AGI _;rcases Wa (f2 n B _ Ql hF) hc with hs|hs
  ·exact Pu (e▸st c hs)
  ·exact(AHW.1 f3.nodup).2.2 c (AIb.2 ⟨_,AH9 hF,hs⟩) bb (by simp) e⟩⟩
 have hT:=hB.turn (E':=E) (w':=w.setCells bb (o+off*r.n) vs) (vw':=σ.bx.set b (.sl (d'+1) r B3)) (fun x v hq=>D_ keep hq) (fun _ h=>h) (fun _ _=>rfl) (fun _ _=>rfl) (fun c hc _=>T7 c (fun e=>by
   rcases hc with hc|hc
   ·exact Pu (e▸st c hc)
   ·exact hc.2 (by simp[e]))) (fun F hF=>⟨hF.nodup,hF.free,fun c hc=>by rw[E7];exact hF.lt c hc,hF.st,fun c hc=>by rw[E7];exact hF.W0 c hc⟩)
 have AJh:dV E (w.setCells bb (o+off*r.n) vs) (σ.bx.set b (.sl (d'+1) r B3)) b (.sl (d'+1) r B3) [bb]:=by
  refine⟨hd,?_⟩;simp only[Ow];refine⟨_,cap,by rw[hh,AAm],by omega,.inr ⟨bb,o,Dv arr (o+off*r.n) vs,ty,fr,List.replicate B3.length [],rfl,Hi _ _ _ _ _ _ _ ha,by rw[Hg];omega,by rw[Hg];exact hu,by simp,by simp,fun i y G hy hG=> ?_⟩⟩;have hG':G=[]:=AJN (AH9 hG);subst hG';have hil:i<rows.length:=by have:=(AF9.1 hy).1;omega
  by_cases W_:off≤i∧i<off+n
  ·have hyz:y=r.z:=by
    rw[←lN,AG0 (by simp;omega),AIC (by simp;omega)]at hy;exact AJN (AH9 hy)
   subst hyz;refine⟨EA r,hzl,fun j v hj=> ?_,YE hgd⟩;have nN:j<r.n:=by have:=(AF9.1 hj).1;omega
   have e1:(i-off)*r.n=i*r.n-off*r.n:=Nat.sub_mul ..;have e2:off*r.n≤i*r.n:=AIq _ W_.1;have e3:(i-off+1)*r.n≤n*r.n:=AIq _ (by omega);rw[AJ3,ALi]at e3;have:=PG ha Tf ((i-off)*r.n+j) v (by
    rw[←RH,Jc (by rw[hzl];omega),hzl,Nat.mul_comm (i-off),Nat.mul_add_mod,ALo nN];exact hj)
   rw[show o+off*r.n+((i-off)*r.n+j)=o+i*r.n+j by omega]at this;exact this
  ·have hyo:rows[i]? =some y:=by
    rw[←lN]at hy;by_cases h1:i<off
    ·rw[AG0 (by simp;omega),AG0 (by simp;omega),List.getElem?_take,AGH h1]at hy
     exact hy
    ·rw[AIC (by simp;omega),ALJ]at hy
     rw[←hy];congr 1;simp;omega
   obtain⟨cs,c1,c2,c3⟩:=U_ i y (Fs[i]'(by omega)) hyo (AGI _);obtain⟨_,c4,c5⟩:=kL (w':=w.setCells bb (o+off*r.n) vs) (S':=E.S) (d':=d') hr c3;refine⟨cs,c4,W5 c2 ha Tf (.inr ?_),c5⟩;by_cases h1:i<off
   ·have:(i+1)*r.n≤off*r.n:=AIq _ h1
    rw[AJ3,ALi]at this;omega
   ·have:(off+n)*r.n≤i*r.n:=AIq _ (by omega)
    omega
 have:=CD.put (b:=b) (B:= .sl (d'+1) r B3) (F:=[bb]) (G:=[]) (by simpa using hT) (by rw[AH0 Dl]) AJh;rw[ALg]at this;exact this
section
variable{Y:Type} {P:Program} {T:HE} (hT:DY P T) {o:Oper} {E:Env} {σ:St} {a:Act} {w:World} {k:K Y} {y:Y}
include hT
theorem mB(h:Rel E σ a w){c:Call}{x:XV}(ho:o.op= .call c)(hc:c.callee= .builtin .clear)(GI:c.args.toList.map σ.ev=[x])(e:Za T c.argTypes σ x k=some y)
  (AJ7:∀b p off n,x= .c (.VP b p off n)→GA (fun _=>none) σ o.op=[b]):∃v w' E' xv σ',((execOp a.eval o).run P w= .ok (.value v) w'∨((execOp a.eval o).run P w= .ok .skip w'∧v=undef))∧Rel E' σ' a w'∧XR E' w' σ'.bx xv v∧
   MV (GA (fun _=>none) σ o.op) E σ.bx w E' σ'.bx w'∧σ'.tm.length=σ.tm.length∧k xv σ' =some y:=by
 obtain⟨o1,hargs',rfl⟩:=Qt GI;have U5:=h.ev o1;unfold Za at e;split at e
 case h_2=>cases e
 rename_i t b off n ht hx;rw[hx]at U5;rw[AJ7 b [] off n hx];split at e
 case h_2=>cases e
 rename_i d r rows hb;split at e
 case isFalse=>cases e
 rename_i T8;rw[AGx]at T8;obtain⟨T8,hr⟩:=T8;rw[AGx,AG7]at hr;obtain⟨hr,hk⟩:=hr;obtain⟨el,ti,hu,Mu,hs,hby,hrow⟩:=KM hT T8;obtain⟨i,z,i1,i2,i3,i4,i5,hg⟩:=WY hT Mu hrow;have UA:VR E w σ.bx (.VP b [] off n) (a.eval o1):=U5;simp only[VR,hb]at UA;obtain⟨_,_,q,ys,ad,len,cap,hgp,hl,hh,hv⟩:=UA;simp only[EY,AGL,AIM]at hgp;obtain⟨rfl,hgp⟩:=hgp;obtain rfl:=AIe hgp;simp only[Gw,AGL]at hh;by_cases hn:n=0
 ·subst hn
  have AGm:(rows.take off++List.replicate 0 r.z)++rows.drop (off+0)=rows:=by simp
  rw[AGm]at e;have PX:σ.bx.set b (.sl d r rows)=σ.bx:=by
   apply ALM;intro j;rw[AJb];split
   ·rename_i e1
    subst e1;rw[hb];simp[(AF9.1 hb).1]
   ·rfl
  rw[PX]at e;refine⟨.tuple #[],w,E,.c .undef,σ,.inl ?_,h,trivial,MV.refl _ _ _ _,rfl,e⟩;have hz:∃a' c',a.eval o1= .slice a' 0 c':=⟨_,_,by rw[hv];rfl⟩;obtain⟨a',c',hz⟩:=hz;simp only[execOp,ho,resolve,hc,hargs',invoke,builtin,Sem.run_bind,Sem.run_pure,Result.andThen_ok,List.map_toArray,ALQ,ALv,Builtin.clear_,ht,hz];cases a'<;>simp[Aw hu]
 ·obtain⟨bb,oo,cap',g1,g2,g3,g4,g5⟩:=oI h (d:=d) hb hr hg hk hl (by omega)
  rw[g1]at hh;simp only[Value.slice.injEq]at hh;obtain⟨rfl,rfl,rfl⟩:=hh;have VD:a.eval o1= .slice (some ⟨bb,oo+off*r.n,none⟩) n (cap'-off):=by
   rw[hv];unfold ND;rw[AGU (by omega)];simp[Addr.add]
  refine⟨.tuple #[],_,E,.c .undef,_,.inl ?_,g4,trivial,g5,rfl,e⟩;have hz:(Builtin.zeroCells z.cells n).toList=(List.replicate n (EA r)).flatten:=by
   unfold Builtin.zeroCells;have hzn:z.cells.size=(EA r).length:=by rw[←i5];simp
   have:=Uk i5 n (fun hh=>by have:=HC r;rw[hh]at this;simp at this;omega);rw[←hzn]at this;exact this
  have h1:∀v∈(List.replicate n (EA r)).flatten,v.oneCell' =true:=fun v hv=>by
   obtain⟨l,hl1,r7⟩:=AIb.1 hv;rw[AJN hl1]at r7;exact cr (w:=w) (S:=E.S) (d:=0) (YE hg) v r7
  have hvl:((List.replicate n (EA r)).flatten).length=n*r.n:=by rw[DW,HC]
  have lM:=run_storeCells_cells (P:=P) bb (oo+off*r.n) (List.replicate n (EA r)).flatten 0 w (fun j hj=>by simpa using(g3 j (by omega)).1) (fun j hj=>by simpa using(g3 j (by omega)).2) h1;rw[AK1]at lM;obtain⟨n',rfl⟩:∃n',n=n'+1:=⟨n-1,by omega⟩;simp only[execOp,ho,resolve,hc,hargs',invoke,builtin,Sem.run_bind,Sem.run_pure,Result.andThen_ok,List.map_toArray,ALQ,ALv,Builtin.clear_,ht,VD];simp[Aw hu,zeroValue,typeInfo,i1,i4,hz,lM]
end
end Go.Fw
end
