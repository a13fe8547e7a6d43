/- The framework, part 1: a checked interpreter of the model's code over abstract states; no claim is made here. -/
import Derived.Calls
import Derived.Still
import Derived.Laws.World
import Derived.Laws.AppendOwn
import Derived.RowKit3
import Derived.Deep.MidRow
import Derived.Laws.StructEq
import Derived.Lib.ConvBytes
import Derived.Laws.BytesArg
import Derived.Tactics
import Derived.OrdersHeld
import Derived.ChangeArms
import Derived.ChangeOld
import Derived.DataReads
import Derived.Below
set_option linter.unusedVariables false
set_option linter.unusedSimpArgs false
set_option linter.unusedSectionVars false
abbrev AA3:Type:=Int × Int × Bool × List UInt8 × Unit
abbrev ACB:Type:=List UInt8 × List Int × Bool × Unit
abbrev ABH:Type:=Int × Int × List UInt8 × Unit
abbrev ABZ:Type:=List Int × Bool × Int × Unit
abbrev ABx:Type:=Int × List UInt8 × Bool × Unit
abbrev AAA:Type:=List Int
abbrev ADE:Type:=Int × Bool × Int × Int × Bool × List UInt8 × Unit
abbrev AC8:Type:=Unit × Int × Unit × Unit × Unit × Int × Unit × Unit × Unit × Unit × Bool × Unit
abbrev AAJ:Type:=Bool × Unit
abbrev AAI:Type:=Int × Unit
abbrev AAP:Type:=List Int × Unit
abbrev AAQ:Type:=Unit × Unit
abbrev AAF:Type:=List Nat
abbrev AC9:Type:=Int × Int × Unit × Unit
abbrev ADI:Type:=Int × Int × Unit × Unit × Bool × Unit × Unit
abbrev AAO:Type:=Nat × Nat
abbrev ADD:Type:=Unit × Int × Unit
abbrev ADH:Type:=Unit × Unit × Int × Unit
abbrev ADG:Type:=Int × Unit × Unit
abbrev ADF:Type:=Int × Bool × Unit
abbrev ACR:Type:=Nat × List Nat
abbrev AC_:Type:=List UInt8 × Unit
abbrev AAj:Type:=Int × Int × List Int × List AA3 × Bool × List AAA × Unit
abbrev AA2:Type:=List AA3 × List AA3 × Int × Unit
abbrev AAt:Type:=Int × Int × List ABH × Unit
abbrev AAi:Type:=Int × List ACB × Unit
abbrev AAB:Type:=List ABZ
abbrev AAH:Type:=List ABx
abbrev AAK:Type:=List AA3
abbrev AAM:Type:=List ACB
abbrev AAN:Type:=List ABH
abbrev AAT:Type:=List ABZ × Int × Unit
abbrev ADJ:Type:=AC8 × Int × Unit
abbrev AB0:Type:=ADD × Unit
abbrev AAZ:Type:=List ADE
abbrev ADO:Type:=AA3 × Bool × Unit
abbrev ACO:Type:=AC9 × Unit
abbrev AC6:Type:=List AAA × Unit
abbrev AC1:Type:=ADF × Unit
abbrev ACx:Type:=ADG × Unit
abbrev ACu:Type:=ADH × Unit
abbrev ACy:Type:=ADI × Unit
abbrev AC0:Type:=AC8 × Unit
abbrev AC3:Type:=AA3 × Unit
abbrev ADB:Type:=AC9 × Int × Unit
abbrev AAL:Type:=List Int × Int × List AA2 × List Int × List ABZ × Int × List AAi × List AAj × List AAt × List ABx × Bool × Unit
abbrev AAC:Type:=List AAj
abbrev AAD:Type:=List AAi
abbrev AAE:Type:=List AAt
abbrev AAG:Type:=List AA2
abbrev ABO:Type:=AAN × Unit
abbrev ACz:Type:=List Int × AAK × List AAA × Unit
abbrev ABk:Type:=ADJ × Unit
abbrev ABf:Type:=AAB × Unit
abbrev ABq:Type:=AAM × Unit
abbrev ACw:Type:=AAK × AAK × Unit
abbrev ADA:Type:=AC9 × Unit × AAN × Unit
abbrev AC2:Type:=ADO × Unit
abbrev ACU:Type:=AAK × Unit
abbrev ABE:Type:=List Int × AAG × List Int × AAB × AAD × AAC × AAE × AAH × Unit
abbrev ADC:Type:=AC8 × List Int × AAG × List Int × AAB × AAD × AAC × AAE × AAH × Unit
abbrev ACJ:Type:=AAC × Unit
abbrev AC4:Type:=AAG × Unit
abbrev AC7:Type:=AAE × Unit
abbrev AC5:Type:=AAD × Unit
abbrev ADS:=@Option.some.injEq
abbrev ADT:=@Option.bind_some
abbrev ADU:=@List.getElem?_eq_getElem
abbrev ADV:=@Option.map_eq_some_iff
abbrev ADW:=@if_pos
abbrev ADa:=@List.getElem?_eq_some_iff
abbrev ADc:=@Option.bind_eq_some_iff
abbrev ADz:=@List.getElem_mem
abbrev AEA:=@Int.toNat_natCast
abbrev AEE:=@Bool.and_eq_true
abbrev AEJ:=@List.append_assoc
abbrev AEK:=@if_neg
abbrev AEO:=@List.nodup_append
abbrev AEY:=@Sigma.mk.injEq
abbrev AEe:=@decide_eq_true_eq
abbrev AEl:=@Bool.not_true
abbrev AEt:=@cond_false
abbrev AE7:=@List.length_cons
abbrev AE8:=@Bool.eq_false_or_eq_true
abbrev AFB:=@List.mem_of_getElem?
abbrev AFI:=@List.cons_append
abbrev AFJ:=@List.getElem?_append_left
abbrev AFO:=@List.nil_append
abbrev AFU:=@List.getElem?_append_right
abbrev AFW:=@List.cons.injEq
abbrev AFZ:=@Bool.false_eq_true
abbrev AFd:=@Bool.true_and
abbrev AFg:=@if_false
abbrev AFp:=@List.append_nil
abbrev AFq:=@eq_of_heq
abbrev AFr:=@List.getElem?_map
abbrev AFt:=@List.mem_append
abbrev AFu:=@Prod.mk.injEq
abbrev AFv:=@List.eq_nil_of_length_eq_zero
abbrev AFx:=@List.getElem?_set_ne
abbrev AFz:=@List.mem_flatten
abbrev AF1:=@List.drop_eq_nil_of_le
abbrev AF2:=@Nat.le_refl
abbrev AF3:=@Nat.lt_of_lt_of_le
abbrev AF7:=@cond_true
abbrev AGD:=@List.getElem_of_mem
abbrev AGE:=@beq_eq_false_iff_ne
abbrev AGF:=@if_true
abbrev AGG:=@Nat.le_trans
abbrev AGH:=@Bool.or_eq_true
abbrev AGI:=@Nat.mul_le_mul_right
abbrev AGJ:=@List.getElem?_set_self
abbrev AGK:=@List.length_filter_le
abbrev AGL:=@List.flatten_cons
abbrev AGM:=@Bool.false_or
abbrev AGN:=@and_true
abbrev AGO:=@List.mem_cons
abbrev AGQ:=@beq_self_eq_true
abbrev AGR:=@bne_self_eq_false
abbrev AGS:=@Option.isSome_none
abbrev AGT:=@List.all_eq_true
abbrev AGU:=@List.flatten_nil
abbrev AGV:=@List.all_cons
abbrev AGW:=@List.getElem?_cons_zero
abbrev AGX:=@Bool.and_true
abbrev AGZ:=@decide_eq_true
abbrev AGa:=@Option.bind_assoc
abbrev AGb:=@List.Perm.append_right
abbrev AGc:=@Bool.not_eq_true
abbrev AGd:=@beq_iff_eq
abbrev AGe:=@List.filter_cons
abbrev AGf:=@Option.isSome_some
abbrev AGg:=@Bool.not_false
abbrev AGh:=@List.take_succ_eq_append_getElem
abbrev AGi:=@List.length_nil
abbrev AGj:=@List.ext_getElem?
abbrev AGk:=@List.eq_of_mem_replicate
abbrev AGl:=@Bool.not_eq_true'
abbrev AGm:=@Nat.zero_add
abbrev AGn:=@List.map_nil
abbrev AGo:=@Nat.add_zero
abbrev AGp:=@List.map_cons
abbrev AGq:=@Option.getD_some
abbrev AGr:=@List.length_append
abbrev AGs:=@Bool.not_eq_false'
abbrev AGt:=@List.Perm.append_left
abbrev AGu:=@List.contains_iff_mem
abbrev AGv:=@Array.getD_eq_getD_getElem?
abbrev AGw:=@List.exists_cons_of_length_eq_add_one
abbrev AGx:=@List.mem_of_find?_eq_some
abbrev AGy:=@List.drop_zero
abbrev AGz:=@decide_eq_false_iff_not
abbrev AG0:=@decide_eq_false
abbrev AG1:=@Bool.false_and
abbrev AG2:=@List.map_congr_left
abbrev AG3:=@dite_true
abbrev AG4:=@Array.length_toList
abbrev AG5:=@List.nodup_cons
abbrev AG6:=@List.find?_cons
abbrev AG7:=@List.map_map
abbrev AG8:=@List.Perm.refl
abbrev AG9:=@List.mapM_cons
section
namespace Go.Fw
inductive Ty where
 |int (k:IntKind)|bool|str|sl (r:Ty)|unit|cons (c r:Ty)
 deriving DecidableEq
@[reducible] def Ty.D:Ty→Type
 | .int _=>Int
 | .bool=>Bool
 | .str=>List UInt8
 | .sl r=>List r.D
 | .unit=>Unit
 | .cons c r=>c.D×r.D
def Ty.n:Ty→Nat
 | .unit=>0
 | .cons _ r=>r.n+1
 |_=>1
def Ty.z:(t:Ty)→t.D
 | .int _=>(0:Int)
 | .bool=>false
 | .str=>[]
 | .sl _=>[]
 | .unit=>()
 | .cons c r=>(c.z,r.z)
def Ty.flat:Ty→Bool
 | .sl _=>false
 | .cons c r=>c.flat&&r.flat
 |_=>true
def Ty.scalar:Ty→Bool
 | .int _| .bool| .str=>true
 |_=>false
structure Y_ where
 i:Nat
 sz:Nat
 j:Nat
inductive AV where
 |v (t:Ty) (x:t.D)
 |sl (s:Bool) (r:Ty) (x:List r.D)
 |nil
 |ref (b:Nat) (p:List Y_)
 |win (b:Nat) (p:List Y_) (off n:Nat)
 |EN (b j:Nat)
 |E7 (b:Nat) (p:List Y_) (i sz j:Nat)
 |Jj (s:Bool) (r:Ty) (x:r.D) (j:Nat)
 |fn (f:Nat) (Fj:AAF)
 |gU (f:Nat) (rows:List ((r:Ty)×r.D))
 |l5
 |undef
def AV.known:AV→Bool
 | .undef=>false
 |_=>true
inductive XV where
 |c (x:AV)
 |agg (l:List AV)
 |LI (l:List (AV ⊕ List AV))
inductive Bx where
 |mem (cs:List AV)
 |sl (d:Nat) (r:Ty) (rows:List r.D)
 |dead
structure St where
 tm:List XV
 bx:List Bx
def Af:(r:Ty)→(j:Nat)→r.D→Option ((t:Ty)×t.D)
 | .cons c _,0,x=>some ⟨c,x.1⟩
 | .cons _ r,j+1,x=>Af r j x.2
 | .unit,_,_=>none
 | .int k,0,x=>some ⟨.int k,x⟩
 | .bool,0,x=>some ⟨.bool,x⟩
 | .str,0,x=>some ⟨.str,x⟩
 | .sl r,0,x=>some ⟨.sl r,x⟩
 |_,_+1,_=>none
def eL{a b:Ty}(h:a=b)(x:a.D):b.D:=h▸x
def B4:(r:Ty)→(j:Nat)→r.D→(t:Ty)→t.D→Option r.D
 | .cons c _,0,x,t,y=>if h:t=c then some (eL h y,x.2)else none
 | .cons _ r,j+1,x,t,y=>(B4 r j x.2 t y).map fun z=>(x.1,z)
 | .unit,_,_,_,_=>none
 | .int k,0,_,t,y=>if h:t= .int k then some (eL h y)else none
 | .bool,0,_,t,y=>if h:t= .bool then some (eL h y)else none
 | .str,0,_,t,y=>if h:t= .str then some (eL h y)else none
 | .sl r,0,_,t,y=>if h:t= .sl r then some (eL h y)else none
 |_,_+1,_,_,_=>none
def rowAt(r:Ty)(rows:List r.D)(i:Nat):r.D:=rows.getD i r.z
def DK:(r:Ty)→List r.D→List Y_→Option ((q:Ty)×List q.D)
 |r,rows,[]=>some ⟨r,rows⟩
 |r,rows,s::p=>
  match Af r s.j (rowAt r rows s.i)with
  |some ⟨.sl q,x⟩=>DK q x p
  |_=>none
def bL:(r:Ty)→List r.D→List Y_→(q:Ty)→List q.D→Option (List r.D)
 |r,_,[],q,y=>if h:q=r then some (eL (congrArg Ty.sl h) y)else none
 |r,rows,s::p,q,y=>
  match Af r s.j (rowAt r rows s.i)with
  |some ⟨.sl r',x⟩=>(bL r' x p q y).bind fun x' =>(B4 r s.j (rowAt r rows s.i) (.sl r') x').map fun row=>rows.set s.i row
  |_=>none
inductive TD where
 |int (k:IntKind)|bool|str|sl (e:Nat)|st (fs:List AAO)|ptr (e:Nat)|other
structure TI where
 size:Nat
 bytes:Nat
 desc:TD
 row:Option Ty
abbrev FI:=List (Nat×TI)
def FI.get:FI→Nat→Option TI
 |[],_=>none
 |(u,i)::l,t=>if u=t then some i else FI.get l t
def TD.agg:TD→Bool
 | .st _=>true
 |_=>false
def FI.YK(T:FI)(t:Nat):Option Ty:=
 match T.get t with
 |some ti=>ti.row
 |none=>none
def ky:Ty→AV
 | .int k=> .v (.int k) (0:Int)
 | .bool=> .v .bool false
 | .str=> .v .str []
 | .sl _=> .nil
 |_=> .undef
def VC:Ty→List AV
 | .cons c r=>ky c::VC r
 | .unit=>[]
 |t=>[ky t]
def cy:Value→AV
 | .int k n=> .v (.int k) n
 | .bool b=> .v .bool b
 | .string s=> .v .str s.data.toList
 | .slice none 0 0=> .nil
 | .pointer none=> .l5
 |_=> .undef
def ofValue:Value→XV
 | .agg cs=> .agg (cs.toList.map cy)
 |v=> .c (cy v)
def St.ev(σ:St):Operand→XV
 | .tmp t=>σ.tm.getD t (.c .undef)
 | .const v=>ofValue v
 | .global _=> .c .undef
 | .func f=> .c (.fn f [])
def St.put(σ:St)(dst:Option Tmp)(x:XV):St:=
 match dst with
 |some d=>{ σ with tm:=σ.tm.set d x }
 |none=>σ
def XV.cells:XV→List AV
 | .c x=>[x]
 | .agg l=>l
 | .LI _=>[]
def J3{β:Ty→Type}(a b:Ty)(x:β a):Option (β b):=if h:a=b then some (h▸x)else none
def Hu(bx:List Bx):AV→Option ((r:Ty)×List r.D)
 | .sl _ r x=>some ⟨r,x⟩
 | .ref b p=>
  match bx[b]? with
  |some (.sl _ r rows)=>DK r rows p
  |_=>none
 | .win b p off n=>
  match bx[b]? with
  |some (.sl _ r rows)=>(DK r rows p).map fun q=>⟨q.1,(q.2.drop off).take n⟩
  |_=>none
 |_=>none
def HS(bx:List Bx)(t:Ty)(x:AV):Option t.D:=
 match x with
 | .v u y=>J3 (β:=Ty.D) u t y
 | .nil=>match t with
  | .sl _=>some []
  |_=>none
 |x=>match t with
  | .sl r=>(Hu bx x).bind fun q=>J3 (β:=fun r=>List r.D) q.1 r q.2
  |_=>none
def EI(bx:List Bx):(r:Ty)→List AV→Option r.D
 | .unit,[]=>some ()
 | .cons c r,x::l=>(HS bx c x).bind fun a=>(EI bx r l).map fun b=>(a,b)
 |_,_=>none
def lenOf(bx:List Bx):AV→Option Nat
 | .nil=>some 0
 | .sl _ _ x=>some x.length
 | .ref b p=>
  match bx[b]? with
  |some (.sl _ r rows)=>(DK r rows p).map fun q=>q.2.length
  |_=>none
 | .win b _ _ n=>
  match bx[b]? with
  |some (.sl _ _ _)=>some n
  |_=>none
 |_=>none
inductive AP where
 |v (t:Ty)
 |sl (s:Bool) (r:Ty)
 |nil
 |ref (i:Nat)
 |ptr (i j:Nat)
 |dz (r:Ty)
 |fn (f:Nat) (Fj:AAF)
 |gU (f:Nat) (rs:List Ty)
 |any
 |UA (i sz:Nat)
 |Xw (i sz j:Nat)
inductive XP where
 |c (p:AP)
 |agg (l:List AP)
 |row (r:Ty)
 |LI (l:List (AP ⊕ List AP))
inductive BP where
 |mem (l:List AP)
 |sl (d:Nat) (r:Ty)
 |gone
structure Bl where
 Bh:List (Nat×XP)
 C6:List BP
@[reducible] def T5:List Ty→Type
 |[]=>Unit
 |r::l=>r.D×T5 l
def T5.mk:(l:List Ty)→T5 l→List ((r:Ty)×r.D)
 |[],_=>[]
 |r::l,x=>⟨r,x.1⟩::T5.mk l x.2
@[reducible] def AP.V:AP→Type
 | .gU _ rs=>T5 rs
 | .v t=>t.D
 | .sl _ r=>List r.D
 | .dz r=>r.D
 | .UA _ _=>Nat×Nat
 | .Xw _ _ _=>Nat
 |_=>Unit
@[reducible] def Ss.V:List AP→Type
 |[]=>Unit
 |p::l=>p.V×Ss.V l
@[reducible] def TA.V:List (AP ⊕ List AP)→Type
 |[]=>Unit
 | .inl p::l=>p.V×TA.V l
 | .inr q::l=>Ss.V q×TA.V l
@[reducible] def XP.V:XP→Type
 | .c p=>p.V
 | .agg l=>Ss.V l
 | .row r=>r.D
 | .LI l=>TA.V l
@[reducible] def BP.V:BP→Type
 | .mem l=>Ss.V l
 | .sl _ r=>List r.D
 | .gone=>Unit
@[reducible] def DC.V:List (Nat×XP)→Type
 |[]=>Unit
 |(_,p)::l=>p.V×DC.V l
@[reducible] def EM.V:List BP→Type
 |[]=>Unit
 |p::l=>p.V×EM.V l
@[reducible] def Bl.V (s:Bl):Type:=DC.V s.Bh×EM.V s.C6
def AP.mk(m:Nat→Nat):(p:AP)→p.V→AV
 | .v t,x=> .v t x
 | .sl s r,x=> .sl s r x
 | .nil,_=> .nil
 | .ref i,_=> .ref (m i) []
 | .ptr i j,_=> .EN (m i) j
 | .dz r,x=> .Jj false r x 0
 | .fn f Fj,_=> .fn f (Fj.map m)
 | .gU f rs,x=> .gU f (T5.mk rs x)
 | .any,_=> .undef
 | .UA i sz,k=> .ref (m i) [⟨k.1,sz,k.2⟩]
 | .Xw i sz j,k=> .ref (m i) [⟨k,sz,j⟩]
def Ss.mk(m:Nat→Nat):(l:List AP)→Ss.V l→List AV
 |[],_=>[]
 |p::l,x=>p.mk m x.1::Ss.mk m l x.2
def Ym:(r:Ty)→r.D→List AV
 | .unit,_=>[]
 | .cons c r,x=>(match c,x.1 with
  | .sl q,y=>AV.sl false q y
  |c,y=> .v c y)::Ym r x.2
 | .sl q,x=>[.sl false q x]
 | .int k,x=>[.v (.int k) x]
 | .bool,x=>[.v .bool x]
 | .str,x=>[.v .str x]
def TA.mk(m:Nat→Nat):(l:List (AP ⊕ List AP))→TA.V l→List (AV ⊕ List AV)
 |[],_=>[]
 | .inl p::l,x=> .inl (p.mk m x.1)::TA.mk m l x.2
 | .inr q::l,x=> .inr (Ss.mk m q x.1)::TA.mk m l x.2
def XP.mk(m:Nat→Nat):(p:XP)→p.V→XV
 | .c p,x=> .c (p.mk m x)
 | .agg l,x=> .agg (Ss.mk m l x)
 | .row r,x=> .agg (Ym r x)
 | .LI l,x=> .LI (TA.mk m l x)
def BP.mk(m:Nat→Nat):(p:BP)→p.V→Bx
 | .mem l,x=> .mem (Ss.mk m l x)
 | .sl d r,x=> .sl d r x
 | .gone,_=> .dead
def DC.mk(m:Nat→Nat):(l:List (Nat×XP))→DC.V l→List XV→List XV
 |[],_,tm=>tm
 |(i,p)::l,x,tm=>DC.mk m l x.2 (tm.set i (p.mk m x.1))
def EM.mk(m:Nat→Nat):(l:List BP)→EM.V l→List Bx
 |[],_=>[]
 |p::l,x=>p.mk m x.1::EM.mk m l x.2
def Bl.st(s:Bl)(n:Nat)(x:s.V):St:=
 { tm:=DC.mk id s.Bh x.1 (List.replicate n (.c .undef)),bx:=EM.mk id s.C6 x.2 }
abbrev Jt:=List (Option Nat)
def Jt.put(m:Jt)(i b:Nat):Option Jt:=
 match m[i]? with
 |some none=>if m.contains (some b)then none else some (m.set i (some b))
 |some (some b')=>if b' =b then some m else none
 |none=>none
def Vb:Jt→List Nat→List Nat→Option Jt
 |m,[],[]=>some m
 |m,i::is,b::bs=>(m.put i b).bind fun m=>Vb m is bs
 |_,_,_=>none
def AP.HP(N:Nat)(m:Jt):AP→AV→Option Jt
 | .ref i,.ref b []=>m.put i b
 | .ref i,.nil=>m.put i (N+i)
 | .ref _,_=>none
 | .UA i sz,.ref b [s]=>if s.sz=sz then m.put i b else none
 | .UA _ _,_=>none
 | .Xw i sz j,.ref b [s]=>if s.sz=sz∧s.j=j then m.put i b else none
 | .Xw _ _ _,_=>none
 | .ptr i j,.EN b j' =>if j=j' then m.put i b else none
 | .ptr _ _,_=>none
 | .fn f Fj,.fn g bs=>if f=g then Vb m Fj bs else none
 | .fn _ _,_=>none
 | .nil,.nil=>some m
 | .nil,_=>none
 |_,_=>some m
def Ss.HP(N:Nat):Jt→List AP→List AV→Option Jt
 |m,[],[]=>some m
 |m,p::l,x::xs=>(p.HP N m x).bind fun m=>Ss.HP N m l xs
 |_,_,_=>none
def TA.HP(N:Nat):Jt→List (AP ⊕ List AP)→List (AV ⊕ List AV)→Option Jt
 |m,[],[]=>some m
 |m,.inl p::l,.inl x::xs=>(p.HP N m x).bind fun m=>TA.HP N m l xs
 |m,.inr p::l,.inr x::xs=>(Ss.HP N m p x).bind fun m=>TA.HP N m l xs
 |_,_,_=>none
def XP.HP(N:Nat)(m:Jt):XP→XV→Option Jt
 | .c p,.c x=>p.HP N m x
 | .agg l,.agg xs=>Ss.HP N m l xs
 | .row _,.agg _=>some m
 | .LI l,.LI xs=>TA.HP N m l xs
 |_,_=>none
def DC.HP(N:Nat)(tm:List XV):Jt→List (Nat×XP)→Option Jt
 |m,[]=>some m
 |m,(i,p)::l=>
  match tm[i]? with
  |some x=>(p.HP N m x).bind fun m=>DC.HP N tm m l
  |none=>none
def EM.HP(N:Nat)(bx:List Bx):Nat→Jt→List BP→Option Jt
 |_,m,[]=>some m
 |i,m,.mem l::ps=>
  match m[i]? with
  |some (some b)=>
   match bx[b]? with
   |some (.mem cs)=>(Ss.HP N m l cs).bind fun m=>EM.HP N bx (i+1) m ps
   |_=>none
  |_=>none
 |i,m,.sl _ _::ps=>
  match m[i]? with
  |some (some _)=>EM.HP N bx (i+1) m ps
  |_=>none
 |i,m,.gone::ps=>EM.HP N bx (i+1) m ps
def BL(bx:List Bx):Jt→List Bx
 |[]=>bx
 |some b::m=>BL (bx.set b .dead) m
 |none::m=>BL bx m
def T5.cX:(l:List Ty)→List ((r:Ty)×r.D)→Option (T5 l)
 |[],[]=>some ()
 |r::l,q::qs=>(J3 (β:=Ty.D) q.1 r q.2).bind fun a=>(T5.cX l qs).map fun b=>(a,b)
 |_,_=>none
def T5.cP(bx:List Bx):(l:List Ty)→List Nat→Option (T5 l)
 |[],[]=>some ()
 |r::l,b::bs=>(match bx[b]? with
  |some (.mem cs)=>EI bx r cs
  |_=>none).bind fun a=>(T5.cP bx l bs).map fun c=>(a,c)
 |_,_=>none
def AP.get(bx:List Bx):(p:AP)→AV→Option p.V
 | .gU f rs,x=>match x with
  | .gU g rows=>if f=g then T5.cX rs rows else none
  | .fn g bs=>if f=g then T5.cP bx rs bs else none
  |_=>none
 | .v t,x=>if t.scalar then HS bx t x else none
 | .sl false r,x=>HS bx (.sl r) x
 | .sl true r,x=>match x with
  | .sl true q y=>J3 (β:=fun r=>List r.D) q r y
  | .nil=>some []
  |_=>none
 | .dz r,x=>match x with
  | .Jj _ q y 0=>J3 (β:=Ty.D) q r y
  | .EN b 0=>match bx[b]? with
   |some (.mem cs)=>EI bx r cs
   |_=>none
  | .E7 b p i sz 0=>match bx[b]? with
   |some (.sl _ q rows)=>(DK q rows p).bind fun s=>if sz=s.1.n then J3 (β:=Ty.D) s.1 r (rowAt s.1 s.2 i)else none
   |_=>none
  |_=>none
 | .nil,_=>some ()
 | .ref _,_=>some ()
 | .ptr _ _,_=>some ()
 | .fn _ _,_=>some ()
 | .any,_=>some ()
 | .UA _ _,x=>match x with
  | .ref _ [s]=>some (s.i,s.j)
  |_=>none
 | .Xw _ _ _,x=>match x with
  | .ref _ [s]=>some s.i
  |_=>none
def Ss.get(bx:List Bx):(l:List AP)→List AV→Option (Ss.V l)
 |[],[]=>some ()
 |p::l,x::xs=>(p.get bx x).bind fun a=>(Ss.get bx l xs).map fun b=>(a,b)
 |_,_=>none
def TA.get(bx:List Bx):(l:List (AP ⊕ List AP))→List (AV ⊕ List AV)→Option (TA.V l)
 |[],[]=>some ()
 | .inl p::l,.inl x::xs=>(p.get bx x).bind fun a=>(TA.get bx l xs).map fun b=>(a,b)
 | .inr p::l,.inr x::xs=>(Ss.get bx p x).bind fun a=>(TA.get bx l xs).map fun b=>(a,b)
 |_,_=>none
def XP.get(bx:List Bx):(p:XP)→XV→Option p.V
 | .c p,.c x=>p.get bx x
 | .agg l,.agg xs=>Ss.get bx l xs
 | .row r,.agg xs=>EI bx r xs
 | .LI l,.LI xs=>TA.get bx l xs
 |_,_=>none
def DC.get(bx:List Bx)(tm:List XV):(l:List (Nat×XP))→Option (DC.V l)
 |[]=>some ()
 |(i,p)::l=>
  match tm[i]? with
  |some x=>(p.get bx x).bind fun a=>(DC.get bx tm l).map fun b=>(a,b)
  |none=>none
def EM.get(bx bk:List Bx):(m:Jt)→(l:List BP)→Option (EM.V l)
 |_,[]=>some ()
 |some b::m,.mem l::ps=>
  match bx[b]? with
  |some (.mem cs)=>(Ss.get bk l cs).bind fun a=>(EM.get bx bk m ps).map fun c=>(a,c)
  |_=>none
 |some b::m,.sl d r::ps=>
  match bx[b]? with
  |some (.sl d' q rows)=>if 1≤d∧d≤d' then(J3 (β:=fun r=>List r.D) q r rows).bind fun a=>(EM.get bx bk m ps).map fun c=>(a,c)else none
  |_=>none
 |_::m,.gone::ps=>(EM.get bx bk m ps).map fun c=>((),c)
 |_,_=>none
def Bl.fit(s:Bl)(N:Nat)(m0:Jt)(tm:List XV)(bx:List Bx):Option (s.V×Jt):=
 (DC.HP N tm m0 s.Bh).bind fun m=>(EM.HP N bx 0 m s.C6).bind fun m=>
  let bk:=BL bx m
  (DC.get bk tm s.Bh).bind fun a=>(EM.get bx bk m s.C6).map fun c=>((a,c),m)
def BP.opened:BP→Bx
 | .sl d r=> .sl (d+1) r []
 |_=> .dead
def Bl.opens(s:Bl)(bx:List Bx):List Bx:=bx++s.C6.map BP.opened
def Bl.m0(s:Bl):Jt:=List.replicate s.C6.length none
structure Sf where
 ins:Bl
 outs:Bl
 g:ins.V→Option outs.V
def TG(m:Jt)(n:Nat)(i:Nat):Nat:=
 match m[i]? with
 |some (some b)=>b
 |_=>n+(i-m.length)
def Ur(ren:Nat→Nat):Nat→(l:List BP)→EM.V l→List Bx→List Bx
 |_,[],_,bx=>bx
 |i,p::l,x,bx=>Ur ren (i+1) l x.2 (if ren i<bx.length then bx.set (ren i) (p.mk ren x.1)else bx++[p.mk ren x.1])
def Wt:(l:List (Nat×XP))→DC.V l→(Nat→Nat)→XV
 |(_,p)::_,x,ren=>p.mk ren x.1
 |[],_,_=> .c .undef
def Ej:Nat:=2^36
section ops
variable{Y:Type}
abbrev K(Y:Type):=XV→St→Option Y
def St.new(σ:St)(b:Bx):St:={ σ with bx:=σ.bx++[b] }
def oZ(x:Bool)(a b:XV)(σ:St)(k:K Y):Option Y:=cond x (k a σ) (k b σ)
def W9(op:BinOp)(κ:IntKind)(a b:Int)(k:AV→Option Y):Option Y:=
 match op with
 | .add=>k (.v (.int κ) (κ.wrap (a+b)))
 | .sub=>k (.v (.int κ) (κ.wrap (a-b)))
 | .mul=>k (.v (.int κ) (κ.wrap (a*b)))
 | .quo=>if b=0 then none else k (.v (.int κ) (κ.wrap (a.tdiv b)))
 | .rem=>if b=0 then none else k (.v (.int κ) (a.tmod b))
 | .and=>k (.v (.int κ) (κ.wrap (BitVec.ofInt κ.bits a &&& BitVec.ofInt κ.bits b).toNat))
 | .or=>k (.v (.int κ) (κ.wrap (BitVec.ofInt κ.bits a ||| BitVec.ofInt κ.bits b).toNat))
 | .xor=>k (.v (.int κ) (κ.wrap (BitVec.ofInt κ.bits a ^^^ BitVec.ofInt κ.bits b).toNat))
 | .andNot=>k (.v (.int κ) (κ.wrap (BitVec.ofInt κ.bits a &&& ~~~BitVec.ofInt κ.bits b).toNat))
 | .eql=>k (.v .bool (a==b))
 | .neq=>k (.v .bool (a !=b))
 | .lss=>k (.v .bool (decide (a<b)))
 | .leq=>k (.v .bool (decide (a≤b)))
 | .gtr=>k (.v .bool (decide (a>b)))
 | .geq=>k (.v .bool (decide (a≥b)))
 |_=>none
def Tc(op:BinOp)(κ:IntKind)(a b:Int)(k:AV→Option Y):Option Y:=
 if b<0 then none else
 match op with
 | .shl=>k (.v (.int κ) (κ.wrap (a*2^min b.toNat κ.bits)))
 | .shr=>k (.v (.int κ) (a.fdiv (2^min b.toNat κ.bits)))
 |_=>none
def Yj(op:BinOp)(a b:List UInt8)(k:AV→Option Y):Option Y:=
 match op with
 | .add=>if a.length+b.length≤Ej then k (.v .str (a++b))else none
 | .eql=>k (.v .bool (a==b))
 | .neq=>k (.v .bool (!(a==b)))
 | .lss=>k (.v .bool (Op.bytesLess a b))
 | .leq=>k (.v .bool (Op.bytesLess a b||a==b))
 | .gtr=>k (.v .bool (!(Op.bytesLess a b||a==b)))
 | .geq=>k (.v .bool (!Op.bytesLess a b))
 |_=>none
def eE:TD→AV→AV→Option Bool
 | .int _,.v (.int j) a,.v (.int k) b=>if j=k then some (a==b)else none
 | .bool,.v .bool a,.v .bool b=>some (a==b)
 | .str,.v .str a,.v .str b=>some (a==b)
 |_,_,_=>none
def GD(T:FI):Nat→List AAO→List AV→List AV→Option Bool
 |_,[],[],[]=>some true
 |i,(o,t)::fs,x::l,z::m=>
  if o=i then
   match T.get t with
   |some ti=>match eE ti.desc x z with
    |some p=>(GD T (i+1) fs l m).map fun r=>p&&r
    |none=>none
   |none=>none
  else none
 |_,_,_,_=>none
def FI.fields(T:FI)(t:Nat):Option (List AAO):=
 match(T.get t).map TI.desc with
 |some (.st fs)=>some fs
 |_=>none
def iz(T:FI)(t:Nat)(op:BinOp)(a b:XV)(k:AV→Option Y):Option Y:=
 match a,b with
 | .c (.v (.int j) x),.c (.v (.int j') y)=>
  match op with
  | .shl| .shr=>Tc op j x y k
  |_=>if j=j' then W9 op j x y k else none
 | .c (.v .str x),.c (.v .str y)=>Yj op x y k
 | .c (.v .bool x),.c (.v .bool y)=>
  match T.get t with
  |some ti=>match ti.desc with
   | .bool=>match op with
    | .eql=>k (.v .bool (x==y))
    | .neq=>k (.v .bool (!(x==y)))
    |_=>none
   |_=>none
  |none=>none
 | .agg l,.agg m=>
  match op,(T.fields t).bind fun fs=>GD T 0 fs l m with
  | .eql,some r=>k (.v .bool r)
  | .neq,some r=>k (.v .bool (!r))
  |_,_=>none
 |_,_=>none
def vm(op:UnOp)(a:XV)(k:AV→Option Y):Option Y:=
 match op,a with
 | .not,.c (.v .bool x)=>k (.v .bool (!x))
 | .neg,.c (.v (.int j) x)=>k (.v (.int j) (j.wrap (0-x)))
 |_,_=>none
def mV(d b:Nat)(p:List Y_)(s:Y_):((t:Ty)×t.D)→AV
 |⟨.sl r,x⟩=>if d≤1 then .sl true r x else .ref b (p++[s])
 |⟨t,x⟩=>if t.scalar then .v t x else .undef
def lQ(s:Bool):((t:Ty)×t.D)→AV
 |⟨.sl r,x⟩=> .sl s r x
 |⟨t,x⟩=>if t.scalar then .v t x else .undef
def V3(f:Nat→Option AV):Nat→Nat→Option (List AV)
 |_,0=>some []
 |j,n+1=>(f j).bind fun x=>(V3 f (j+1) n).map fun l=>x::l
def E5(bx:List Bx):AV→Nat→Option AV
 | .EN b j,i=>
  match bx[b]? with
  |some (.mem cs)=>cs[j+i]?
  |_=>none
 | .E7 b p r sz j,i=>
  match bx[b]? with
  |some (.sl d q rows)=>if p.length<d then(DK q rows p).bind fun s=>if sz=s.1.n then(Af s.1 (j+i) (rowAt s.1 s.2 r)).map (mV (d-p.length) b p ⟨r,sz,j+i⟩)else none else none
  |_=>none
 | .Jj s r x j,i=>(Af r (j+i) x).map (lQ s)
 |_,_=>none
def Z5(T:FI)(t:Nat)(σ:St)(a:XV):Option XV:=
 match a,T.get t with
 | .c a,some ti=>if ti.size=0 then none else if ti.desc.agg then(V3 (E5 σ.bx a) 0 ti.size).map .agg else(E5 σ.bx a 0).map .c
 |_,_=>none
def WJ(d:Nat)(t:Ty)(x:AV)(bx:List Bx):Option (t.D×List Bx×Nat):=
 match x with
 | .v u y=>(J3 (β:=Ty.D) u t y).map fun y=>(y,bx,d)
 | .nil=>match t with
  | .sl _=>some ([],bx,d)
  |_=>none
 | .sl true r y=>match t with
  | .sl q=>(J3 (β:=fun r=>List r.D) r q y).map fun y=>(y,bx,1)
  |_=>none
 | .ref b []=>match t with
  | .sl q=>
   match bx[b]? with
   |some (.sl d' r y)=>(J3 (β:=fun r=>List r.D) r q y).map fun y=>(y,bx.set b .dead,min d (d'+1))
   |_=>none
  |_=>none
 | .win b [] off n=>match t with
  | .sl q=>
   match bx[b]? with
   |some (.sl d' r y)=>(J3 (β:=fun r=>List r.D) r q ((y.drop off).take n)).map fun y=>(y,bx.set b .dead,min d (d'+1))
   |_=>none
  |_=>none
 |_=>none
def cellsIn(d:Nat):(r:Ty)→List AV→List Bx→Option (r.D×List Bx×Nat)
 | .unit,[],bx=>some ((),bx,d)
 | .cons c r,x::l,bx=>(WJ d c x bx).bind fun a=>(cellsIn a.2.2 r l a.2.1).map fun b=>((a.1,b.1),b.2)
 |_,_,_=>none
def pA(d:Nat)(r:Ty)(x:XV)(bx:List Bx):Option (r.D×List Bx×Nat):=
 match x with
 | .agg l=>cellsIn d r l bx
 | .c x=>WJ d r x bx
 |_=>none
def FC(b:Nat):AV→AV
 | .ref b' (s::p)=>if b' =b then .undef else .ref b' (s::p)
 | .win b' (s::p) i n=>if b' =b then .undef else .win b' (s::p) i n
 | .E7 b' (s::p) i sz j=>if b' =b then .undef else .E7 b' (s::p) i sz j
 |x=>x
def iP(b:Nat):XV→XV
 | .c x=> .c (FC b x)
 | .agg l=> .agg (l.map (FC b))
 | .LI l=> .LI (l.map fun| .inl x=> .inl (FC b x)| .inr q=> .inr (q.map (FC b)))
def mM(b:Nat):Bx→Bx
 | .mem cs=> .mem (cs.map (FC b))
 |x=>x
def St.mE(b:Nat)(σ:St):St:={ tm:=σ.tm.map (iP b),bx:=σ.bx.map (mM b) }
def Sg(cs:List AV):Nat→List AV→Option (List AV)
 |_,[]=>some cs
 |j,x::l=>if j<cs.length then Sg (cs.set j x) (j+1) l else none
def cF(d:Nat)(r:Ty)(y_:r.D)(j:Nat)(x:XV)(bx:List Bx):Option (r.D×List Bx×Nat):=
 match x with
 | .agg l=>if j=0 then cellsIn d r l bx else none
 | .c x=>
  match Af r j y_ with
  |some ⟨t,_⟩=>(WJ d t x bx).bind fun a=>(B4 r j y_ t a.1).map fun row=>(row,a.2)
  |none=>none
 |_=>none
def XV.plain:XV→Bool
 | .c (.v _ _)=>true
 |_=>false
def X4(σ:St)(a:XV)(x:XV):Option St:=
 match a with
 | .c (.EN b j)=>
  match σ.bx[b]? with
  |some (.mem cs)=>(Sg cs j x.cells).map fun cs=>{ σ with bx:=σ.bx.set b (.mem cs) }
  |_=>none
 | .c (.E7 b p i sz j)=>
  match σ.bx[b]? with
  |some (.sl d r rows)=>if p.length<d then
   (DK r rows p).bind fun s=>if sz=s.1.n then(cF (d-p.length) s.1 (rowAt s.1 s.2 i) j x (σ.bx.set b .dead)).bind fun w=>
    (bL r rows p s.1 (s.2.set i w.1)).map fun rows=>
     let σ':St:={ σ with bx:=w.2.1.set b (.sl (w.2.2+p.length) r rows) }
     if x.plain then σ' else σ'.mE b
    else none
   else none
  |_=>none
 |_=>none
def Um(σ:St)(a x:XV):Option (St×XV):=
 match a,x with
 | .c (.E7 b _ _ _ _),.c (.win b' (s::p') off n)=>
  if b' =b then
   match σ.bx[b]? with
   |some (.sl d r rows)=>(DK r rows (s::p')).map fun q=>({ σ with bx:=σ.bx.set b (.sl (min d (p'.length+1)) r rows) },.c (.sl true q.1 ((q.2.drop off).take n)))
   |_=>none
  else none
 |_,_=>some (σ,x)
def V9(σ:St)(a x:XV):Option St:=(Um σ a x).bind fun q=>X4 q.1 a q.2
def bY(bx:List Bx)(x:AV):Option ((r:Ty)×(List r.D×List Bx×Nat)):=
 match x with
 | .v .str s=>some ⟨.int .u8,s.map (fun c=>(c.toNat:Int)),bx,9⟩
 | .sl s r rows=>if r.flat then some ⟨r,rows,bx,9⟩else if s then some ⟨r,rows,bx,1⟩else none
 | .ref b []=>
  match bx[b]? with
  |some (.sl d r rows)=>if r.flat then some ⟨r,rows,bx,9⟩else some ⟨r,rows,bx.set b .dead,d⟩
  |_=>none
 | .ref b p=>
  match bx[b]? with
  |some (.sl _ r rows)=>(DK r rows p).bind fun q=>if q.1.flat then some ⟨q.1,q.2,bx,9⟩else none
  |_=>none
 | .win b p off n=>
  match bx[b]? with
  |some (.sl _ r rows)=>(DK r rows p).bind fun q=>if q.1.flat then some ⟨q.1,(q.2.drop off).take n,bx,9⟩else none
  |_=>none
 |_=>none
def bT(bx:List Bx)(x:AV):Option ((r:Ty)×(List r.D×List Bx×Nat)):=
 match x with
 | .ref b []=>
  match bx[b]? with
  |some (.sl d r rows)=>some ⟨r,rows,bx.set b .dead,d⟩
  |_=>none
 | .win b [] off n=>
  match bx[b]? with
  |some (.sl d r rows)=>some ⟨r,(rows.drop off).take n,bx.set b .dead,d⟩
  |_=>none
 |_=>none
def FI.elem(T:FI)(t:Nat):Option TI:=
 match(T.get t).map TI.desc with
 |some (.sl e)=>T.get e
 |_=>none
def FI.M4(T:FI)(t:Nat)(r:Ty):Bool:=
 match T.elem t with
 |some ti=>decide (ti.size=r.n)&&decide (ti.bytes≤512)&&decide (ti.row=some r)
 |none=>false
def FI.isStr(T:FI)(t:Nat):Bool:=
 match(T.get t).map TI.desc with
 |some .str=>true
 |_=>false
def FI.vc(T:FI)(t:Nat):Bool:=
 match(T.get t).map TI.desc with
 |some (.sl _)=>true
 |_=>false
def Wp(T:FI)(ts:Array TypeId)(σ:St)(a x:XV)(k:K Y):Option Y:=
 match ts[0]?,ts[1]? with
 |some t,some u=>
  if T.vc u||T.isStr u then
   match a,x with
   | .c .nil,.c y=>
    (bY σ.bx y).bind fun s=>if T.M4 t s.1 then
     if s.2.1.length≤Ej then k (.c (.ref s.2.2.1.length [])) { σ with bx:=s.2.2.1++[.sl s.2.2.2 s.1 s.2.1] }else none
     else none
   | .c a,.c y=>
    (bT σ.bx a).bind fun d=>if T.M4 t d.1 then(bY d.2.2.1 y).bind fun s=>
     (J3 (β:=fun r=>List r.D) s.1 d.1 s.2.1).bind fun rows=>
      if d.2.1.length+rows.length≤Ej then
       k (.c (.ref s.2.2.1.length [])) { σ with bx:=s.2.2.1++[.sl (min d.2.2.2 s.2.2.2) d.1 (d.2.1++rows)] }
      else none
     else none
   |_,_=>none
  else none
 |_,_=>none
def Zb(T:FI)(ts:Array TypeId)(σ:St)(x:XV)(k:K Y):Option Y:=
 match ts[0]?,x with
 |some t,.c (.win b [] off n)=>
  match σ.bx[b]? with
  |some (.sl d r rows)=>if T.M4 t r&&(r.flat&&decide (0<r.n))then k (.c .undef) { σ with bx:=σ.bx.set b (.sl d r ((rows.take off++List.replicate n r.z)++rows.drop (off+n))) }else none
  |_=>none
 |_,_=>none
def V5:XV→Option Int
 | .c (.v (.int _) n)=>some n
 |_=>none
def Im(len:Nat)(lo hi:Option XV)(k:Nat→Nat→Option Y):Option Y:=
 let h:Option Int:=match hi with
  |none=>some (len:Int)
  |some x=>V5 x
 let l:Option Int:=match lo with
  |none=>some 0
  |some x=>V5 x
 match l,h with
 |some l,some h=>if 0≤l∧l≤h∧h≤(len:Int)then k l.toNat h.toNat else none
 |_,_=>none
def Zw(T:FI)(t:Nat)(σ:St)(x:XV)(lo hi:Option XV)(k:K Y):Option Y:=
 match x with
 | .c (.v .str s)=>if T.isStr t then Im s.length lo hi fun l h=>k (.c (.v .str ((s.drop l).take (h-l)))) σ else none
 | .c (.sl s r rows)=>if T.M4 t r then Im rows.length lo hi fun l h=>k (.c (.sl s r ((rows.drop l).take (h-l)))) σ else none
 | .c (.ref b p)=>
  match Hu σ.bx (.ref b p)with
  |some q=>if T.M4 t q.1 then Im q.2.length lo hi fun l h=>k (.c (.win b p l (h-l))) σ else none
  |none=>none
 |_=>none
def ZZ(σ:St)(T:FI)(t:Nat)(x i:XV)(k:K Y):Option Y:=
 match x,V5 i with
 | .c (.sl s r rows),some i=>if T.M4 t r then(if 0≤i∧i<(rows.length:Int)then k (.c (.Jj s r (rowAt r rows i.toNat) 0)) σ else none)else none
 | .c (.ref b p),some i=>
  match Hu σ.bx (.ref b p)with
  |some q=>if T.M4 t q.1 then(if 0≤i∧i<(q.2.length:Int)then k (.c (.E7 b p i.toNat q.1.n 0)) σ else none)else none
  |none=>none
 | .c (.win b p off n),some i=>
  match Hu σ.bx (.ref b p)with
  |some q=>if T.M4 t q.1 then(if 0≤i∧i<(n:Int)then k (.c (.E7 b p (off+i.toNat) q.1.n 0)) σ else none)else none
  |none=>none
 |_,_=>none
def gj(T:FI)(t:Nat)(x:XV)(f:Nat):Option XV:=
 match T.get t with
 |some ⟨_,_,.st fs,_⟩=>
  match fs[f]? with
  |some (o,_)=>match x with
   | .c (.EN b j)=>some (.c (.EN b (j+o)))
   | .c (.E7 b p i sz j)=>some (.c (.E7 b p i sz (j+o)))
   | .c (.Jj s r y j)=>some (.c (.Jj s r y (j+o)))
   |_=>none
  |none=>none
 |_=>none
def pk(T:FI)(t:Nat)(x:XV)(f:Nat):Option XV:=
 match T.get t,x with
 |some ⟨_,_,.st fs,_⟩,.agg l=>
  match fs[f]? with
  |some (o,u)=>
   match T.get u with
   |some ti=>if ti.desc.agg then some (.agg ((l.drop o).take ti.size))else(l[o]?).map .c
   |none=>none
  |none=>none
 |_,_=>none
def gR(T:FI)(src dst:Nat)(σ:St)(x:XV)(k:K Y):Option Y:=
 match(T.get src).map TI.desc,(T.get dst).map TI.desc,x with
 |some (.int _),some (.int κ),.c (.v (.int _) n)=>k (.c (.v (.int κ) (κ.wrap n))) σ
 |some .str,some .str,.c (.v .str s)=>k (.c (.v .str s)) σ
 |some .str,some (.sl e),.c (.v .str s)=>
  match(T.get e).map TI.desc with
  |some (.int .u8)=>if s.length≤Ej then k (.c (.ref σ.bx.length [])) (σ.new (.sl 9 (.int .u8) (s.map fun c=>(c.toNat:Int))))else none
  |_=>none
 |some (.sl e),some .str,.c x=>
  match(T.get e).map TI.desc,HS σ.bx (.sl (.int .u8)) x with
  |some (.int .u8),some l=>k (.c (.v .str (l.map fun n:Int=>UInt8.ofNat n.toNat))) σ
  |_,_=>none
 |_,_,_=>none
def gb(T:FI)(t:Nat)(σ:St)(l c:XV)(k:K Y):Option Y:=
 match(T.get t).map TI.desc,V5 l,V5 c with
 |some (.sl e),some n,some m=>
  match FI.YK T e with
  |some r=>if T.M4 t r then(if 0≤n∧n≤m∧m≤(Ej:Int)then k (.c (.ref σ.bx.length [])) (σ.new (.sl 9 r (List.replicate n.toNat r.z)))else none)else none
  |none=>none
 |_,_,_=>none
def Xl(T:FI)(fs:List AAO):List AV→List (Nat×XV)→Option (List AV)
 |cs,[]=>some cs
 |cs,(i,x)::l=>
  match fs[i]? with
  |some (o,u)=>
   match T.get u with
   |some ti=>if x.cells.length=ti.size∧ti.size≠0∧x.cells.all AV.known=true then(Sg cs o x.cells).bind fun cs=>Xl T fs cs l else none
   |none=>none
  |none=>none
def Ta(r:Ty):Nat→Nat→List (Nat×XV)→List Bx→Nat→Option (List r.D×List Bx×Nat)
 |_,0,[],bx,d=>some ([],bx,d)
 |i,n+1,(j,x)::l,bx,d=>
  if i=j then(pA d r x bx).bind fun a=>(Ta r (i+1) n l a.2.1 a.2.2).map fun b=>(a.1::b.1,b.2)else none
 |i,n+1,[],bx,d=>(Ta r (i+1) n [] bx d).map fun b=>(r.z::b.1,b.2)
 |_,0,_::_,_,_=>none
def LF(T:FI)(t n:Nat)(parts:List (Nat×XV))(σ:St)(k:K Y):Option Y:=
 match(T.get t).map TI.desc with
 |some (.sl e)=>
  match FI.YK T e with
  |some r=>if T.M4 t r&&decide (n≤1024)&&decide (r.n≤1024)then(Ta r 0 n parts σ.bx 9).bind fun a=>k (.c (.ref a.2.1.length [])) { σ with bx:=a.2.1++[.sl a.2.2 r a.1] }else none
  |none=>none
 |_=>none
def RP(T:FI)(t:Nat)(σ:St)(x i:XV)(k:K Y):Option Y:=
 match x,V5 i with
 | .c (.v .str s),some i=>if T.isStr t then if 0≤i∧i<(s.length:Int)then k (.c (.v (.int .u8) ((s.getD i.toNat 0).toNat:Int))) σ else none else none
 |_,_=>none
def cO(x:XV)(i:Nat):Option XV:=
 match x with
 | .LI l=>match l[i]? with
  |some (.inl a)=>some (.c a)
  |some (.inr q)=>some (.agg q)
  |none=>none
 |_=>none
def DB(m:Jt):AV→AV
 | .ref b (s::p)=>if m.contains (some b)then .undef else .ref b (s::p)
 | .win b (s::p) i n=>if m.contains (some b)then .undef else .win b (s::p) i n
 | .E7 b (s::p) i sz j=>if m.contains (some b)then .undef else .E7 b (s::p) i sz j
 |x=>x
def O1(m:Jt):XV→XV
 | .c x=> .c (DB m x)
 | .agg l=> .agg (l.map (DB m))
 | .LI l=> .LI (l.map fun| .inl x=> .inl (DB m x)| .inr q=> .inr (q.map (DB m)))
def oM(m:Jt):Bx→Bx
 | .mem cs=> .mem (cs.map (DB m))
 |x=>x
def St.T8(m:Jt)(σ:St):St:=
 match m with
 |[]=>σ
 |_::_=>{ tm:=σ.tm.map (O1 m),bx:=σ.bx.map (oM m) }
def aK(c:Sf)(args:List XV)(σ:St)(k:K Y):Option Y:=
 if args.length=c.ins.Bh.length then
  match c.ins.fit σ.bx.length c.ins.m0 args (c.ins.opens σ.bx)with
  |some (v,m)=>(c.g v).bind fun u=>
   let ren:=TG m (c.ins.opens σ.bx).length
   let σ1:=({ σ with bx:=c.ins.opens σ.bx }:St).T8 m
   k (Wt c.outs.Bh u.1 ren) { σ1 with bx:=Ur ren 0 c.outs.C6 u.2 (BL σ1.bx m) }
  |none=>none
 else none
def U1(σ:St)(x:XV)(k:K Y):Option Y:=
 match x with
 | .c (.win b [] off n)=>
  (bT σ.bx (.win b [] off n)).bind fun s=>k (.c (.ref s.2.2.1.length [])) { σ with bx:=s.2.2.1++[.sl s.2.2.2 s.1 s.2.1] }
 |x=>k x σ
def j4(l:List XV):Option AAF:=
 match l with
 |[]=>some []
 | .c (.EN b 0)::l=>(j4 l).map fun r=>b::r
 |_=>none
def iO(big:Bool)(a b:XV)(k:AV→Option Y):Option Y:=
 match a,b with
 | .c (.v (.int j) x),.c (.v (.int j') y)=>
  if j=j' then(if big then k (.v (.int j) (if y>x then y else x))else k (.v (.int j) (if y<x then y else x)))else none
 |_,_=>none
def Rm(T:FI)(Γ:Nat→Option Sf)(o:Oper)(σ:St)(k:K Y):Option Y:=
 match o.op with
 | .move x=>k (σ.ev x) σ
 | .assign x=>U1 σ (σ.ev x) k
 | .pick c a b=>match σ.ev c with
  | .c (.v .bool x)=>oZ x (σ.ev a) (σ.ev b) σ k
  |_=>none
 | .alloc t=>match FI.YK T t with
  |some r=>k (.c (.EN σ.bx.length 0)) (σ.new (.mem (VC r)))
  |none=>none
 | .box t x=>match T.get t with
  |some ti=>if(σ.ev x).cells.length=ti.size∧ti.size≠0∧(σ.ev x).cells.all AV.known=true then k (.c (.EN σ.bx.length 0)) (σ.new (.mem (σ.ev x).cells))else none
  |none=>none
 | .build t parts=>match T.get t,FI.YK T t with
  |some ⟨_,_,.st fs,_⟩,some r=>match Xl T fs (VC r) (parts.toList.map fun q=>(q.1,σ.ev q.2))with
   |some cs=>k (.agg cs) σ
   |none=>none
  |_,_=>none
 | .buildSlice t n parts=>LF T t n (parts.toList.map fun q=>(q.1,σ.ev q.2)) σ k
 | .load t a=>match Z5 T t σ (σ.ev a)with
  |some x=>k x σ
  |none=>none
 | .store t a x=>match T.get t with
  |some ti=>if(σ.ev x).cells.length=ti.size∧ti.size≠0∧(σ.ev x).cells.all AV.known=true then(match V9 σ (σ.ev a) (σ.ev x)with
   |some σ=>k (.c .undef) σ
   |none=>none)else none
  |none=>none
 | .nilCheck x=>match σ.ev x with
  | .c (.EN b j)=>k (.c (.EN b j)) σ
  | .c (.E7 b p i sz j)=>k (.c (.E7 b p i sz j)) σ
  | .c (.Jj s r y j)=>k (.c (.Jj s r y j)) σ
  | .c (.fn f Fj)=>k (.c (.fn f Fj)) σ
  |_=>none
 | .binOp op t x y _=>iz T t op (σ.ev x) (σ.ev y) fun a=>k (.c a) σ
 | .unOp op _ x=>vm op (σ.ev x) fun a=>k (.c a) σ
 | .convert s d x=>gR T s d σ (σ.ev x) k
 | .makeFunc (.func f) first Fj=>if first.size=0 then(match j4 (Fj.toList.map σ.ev)with
  |some bs=>k (.c (.fn f bs)) σ
  |none=>none)else none
 | .makeSlice t l c=>gb T t σ (σ.ev l) (σ.ev c) k
 | .slice t x lo hi none=>Zw T t σ (σ.ev x) (lo.map σ.ev) (hi.map σ.ev) k
 | .fieldAddr t x f=>match gj T t (σ.ev x) f with
  |some y=>k y σ
  |none=>none
 | .field t x f=>match pk T t (σ.ev x) f with
  |some y=>k y σ
  |none=>none
 | .indexAddr t x i=>ZZ σ T t (σ.ev x) (σ.ev i) k
 | .index t x i=>RP T t σ (σ.ev x) (σ.ev i) k
 | .extract x i=>match cO (σ.ev x) i with
  |some y=>k y σ
  |none=>none
 | .call { callee:= .value f,args,.. }=>match σ.ev f with
  | .c (.fn f Fj)=>match Γ f with
   |some c=>aK c (args.toList.map σ.ev++Fj.map fun b=> .c (.EN b 0)) σ k
   |none=>none
  | .c (.gU f rows)=>match Γ f with
   |some c=>aK c (args.toList.map σ.ev++rows.map fun q=> .c (.Jj false q.1 q.2 0)) σ k
   |none=>none
  |_=>none
 | .call { callee:= .builtin .len,args,argTypes }=>match args.toList.map σ.ev,argTypes[0]? with
  |[.c (.v .str s)],some t=>if T.isStr t then k (.c (.v (.int .i64) (s.length:Int))) σ else none
  |[.c x],some t=>if T.vc t then(match lenOf σ.bx x with
   |some n=>k (.c (.v (.int .i64) (n:Int))) σ
   |none=>none)else none
  |_,_=>none
 | .call { callee:= .builtin .append,args,argTypes }=>match args.toList.map σ.ev with
  |[a,x]=>Wp T argTypes σ a x k
  |_=>none
 | .call { callee:= .builtin .clear,args,argTypes }=>match args.toList.map σ.ev with
  |[x]=>Zb T argTypes σ x k
  |_=>none
 | .call { callee:= .builtin .max,args,.. }=>match args.toList.map σ.ev with
  |[a,x]=>iO true a x fun a=>k (.c a) σ
  |_=>none
 | .call { callee:= .builtin .min,args,.. }=>match args.toList.map σ.ev with
  |[a,x]=>iO false a x fun a=>k (.c a) σ
  |_=>none
 |_=>none
end ops
end Go.Fw
end
section
namespace Go.Fw
section
variable{Y:Type}
structure bV where
 T:FI
 Γ:Nat→Option Sf
 hint:Nat→List Nat
def Xc(hint:AAF):XV→Bool
 | .c (.EN b _)=>hint.contains b
 | .c (.E7 b _ _ _ _)=>hint.contains b
 | .c (.Jj _ _ _ _)=>true
 |_=>false
def YB(hint:AAF)(σ:St):Op→Bool
 | .assign x=>match σ.ev x with
  | .c (.win _ [] _ _)=>false
  |_=>true
 | .move _| .pick .. | .nilCheck _| .binOp .. | .unOp .. | .fieldAddr .. | .field .. | .indexAddr .. | .index .. | .extract .. | .build .. =>true
 | .slice _ _ _ _ none=>true
 | .load _ a=>Xc hint (σ.ev a)
 | .call { callee:= .builtin .len,.. }=>true
 | .call { callee:= .builtin .max,.. }=>true
 | .call { callee:= .builtin .min,.. }=>true
 |_=>false
def Fo(Γ:Nat→Option Sf)(σ:St):Op→List Nat
 | .store _ a _=>match σ.ev a with
  | .c (.EN b _)=>[b]
  | .c (.E7 b _ _ _ _)=>[b]
  |_=>[]
 | .call { callee:= .value f,args,.. }=>match σ.ev f with
  | .c (.fn f Fj)=>match Γ f with
   |some c=>match c.ins.fit σ.bx.length c.ins.m0 (args.toList.map σ.ev++Fj.map fun b=> .c (.EN b 0)) (c.ins.opens σ.bx)with
    |some (_,m)=>m.filterMap id
    |none=>[]
   |none=>[]
  | .c (.gU f rows)=>match Γ f with
   |some c=>match c.ins.fit σ.bx.length c.ins.m0 (args.toList.map σ.ev++rows.map fun q=> .c (.Jj false q.1 q.2 0)) (c.ins.opens σ.bx)with
    |some (_,m)=>m.filterMap id
    |none=>[]
   |none=>[]
  |_=>[]
 | .call { callee:= .builtin .clear,args,.. }=>match args.toList.map σ.ev with
  |[.c (.win b _ _ _)]=>[b]
  |_=>[]
 |_=>[]
def tt:XV:= .c (.v .bool true)
def ff:XV:= .c (.v .bool false)
def mQ(C:bV)(ops:Array Oper)(o:Oper)(kn:St→Option Y)(σ:St):Option Y:=
 match o.guard with
 |none=>Rm C.T C.Γ o σ fun x σ' =>kn (σ'.put o.dst x)
 |some (j,want)=>
  match(ops[j]?).bind (·.dst)with
  |some t=>
   match σ.tm[t]? with
   |some (.c (.v .bool b))=>
    let yes (σ:St):Option Y:=Rm C.T C.Γ o σ fun x σ' =>kn (σ'.put o.dst x)
    let no (σ:St):Option Y:=kn (σ.put o.dst (.LI []))
    cond b ((if want then yes else no) (σ.put (some t) tt)) ((if want then no else yes) (σ.put (some t) ff))
   |some (.LI [])=>kn (σ.put o.dst (.LI []))
   |_=>none
  |none=>none
def ic(C:bV)(all:Array Oper):List Oper→(St→Option Y)→St→Option Y
 |[],kn,σ=>kn σ
 |o::rest,kn,σ=>mQ C all o (fun σ' =>ic C all rest kn σ') σ
def l6(C:bV)(ops:Array Oper)(i:Nat)(kn:St→Option Y)(σ:St):Option Y:=
 match ops[i]? with
 |none=>none
 |some o=>mQ C ops o kn σ
def Ze(bx:List Bx)(b:Nat):Bool:=
 match bx[b]? with
 |some .dead=>true
 |some _=>false
 |none=>true
def idle(ops:Array Oper)(σ:St)(o:Oper):Bool:=
 match o.guard with
 |none=>false
 |some (j,want)=>
  match(ops[j]?).bind (·.dst)with
  |some t=>
   match σ.tm[t]? with
   |some (.c (.v .bool b))=>b !=want
   |some (.LI [])=>true
   |_=>false
  |none=>false
def cB(hint:AAF)(ops:Array Oper)(listed:Array Bool)(σ:St)(i:Nat):Bool:=
 match ops[i]? with
 |some o=>(YB hint σ o.op||idle ops σ o)&&Region.free .any ops listed i
 |none=>false
def ia(f:Nat→List Bool→Option Y):List Nat→List Bool→Option Y
 |[],_=>none
 |[i],ω=>f i ω
 |i::_::_,[]=>f i []
 |i::_::_,true::ω=>f i ω
 |_::j::r,false::ω=>ia f (j::r) ω
def N9(C:bV)(hint:AAF)(ops:Array Oper)(kn:List Bool→St→Option Y):Nat→Array Bool→List Bool→St→Option Y
 |fuel,listed,ω,σ=>
  if hint.all (fun b=> !Ze σ.bx b)then
   match Region.ready .any ops listed with
   |[]=>kn ω σ
   |rs=>
    match fuel with
    |0=>none
    |fuel+1=>
     match rs.find? (cB hint ops listed σ)with
     |some i=>l6 C ops i (fun σ' =>N9 C hint ops kn fuel (listed.setIfInBounds i true) ω σ') σ
     |none=>ia (fun i ω=>
      match ops[i]? with
      |some o=>if(Fo C.Γ σ o.op).all (fun b=> !hint.contains b)then l6 C ops i (fun σ' =>N9 C hint ops kn fuel (listed.setIfInBounds i true) ω σ') σ else none
      |none=>none) rs ω
  else none
def first:Code→Nat
 | .region id _ _=>id
 | .seq a _=>first a
 | .cond _ a _=>first a
 | .block _ a=>first a
 | .loop a=>first a
 | .scope a=>first a
 |_=>0
abbrev KN(Y:Type):=List Bool→St→Option Y
def run(C:bV)(J:Nat→St→Option Y):Code→KN Y→(Nat→KN Y)→KN Y→KN Y
 | .skip,kn,_,_,ω,σ=>kn ω σ
 | .region id ops draw,kn,_,_,ω,σ=>
  if draw then(if Region.noSelect ops then N9 C (C.hint id) ops kn ops.size (Array.replicate ops.size false) ω σ else none)else ic C ops ops.toList (kn ω) σ
 | .seq a b,kn,kx,kr,ω,σ=>run C J a (fun ω σ=>run C J b kn kx kr ω σ) kx kr ω σ
 | .cond (.tmp t) a b,kn,kx,kr,ω,σ=>
  match σ.tm[t]? with
  |some (.c (.v .bool x))=>cond x (run C J a kn kx kr ω (σ.put (some t) tt)) (run C J b kn kx kr ω (σ.put (some t) ff))
  |_=>none
 | .block id body,kn,kx,kr,ω,σ=>run C J body kn (fun j ω σ=>if j=id then kn ω σ else kx j ω σ) kr ω σ
 | .loop body,_,_,_,_,σ=>J (first body) σ
 | .exit id,_,kx,_,ω,σ=>kx id ω σ
 | .ret,_,_,kr,ω,σ=>kr ω σ
 |_,_,_,_,_,_=>none
def find(C:bV)(J:Nat→St→Option Y)(ℓ :Nat):Code→KN Y→(Nat→KN Y)→KN Y→Option (KN Y)
 | .seq a b,kn,kx,kr=>
  match find C J ℓ a (fun ω σ=>run C J b kn kx kr ω σ) kx kr with
  |some f=>some f
  |none=>find C J ℓ b kn kx kr
 | .cond _ a b,kn,kx,kr=>
  match find C J ℓ a kn kx kr with
  |some f=>some f
  |none=>find C J ℓ b kn kx kr
 | .block id body,kn,kx,kr=>find C J ℓ body kn (fun j ω σ=>if j=id then kn ω σ else kx j ω σ) kr
 | .loop body,_,kx,kr=>
  if first body= ℓ then some (fun ω σ=>run C J body (fun _ σ=>J ℓ σ) kx kr ω σ)else find C J ℓ body (fun _ σ=>J (first body) σ) kx kr
 |_,_,_,_=>none
def o6(T:FI)(σ:St):ResultVar→Option XV
 | .tmp t=>σ.tm[t]?
 | .cell a t=>match σ.tm[a]? with
  |some x=>Z5 T t σ x
  |none=>none
def jA:List XV→Option (List (AV ⊕ List AV))
 |[]=>some []
 | .c x::l=>(jA l).map fun r=> .inl x::r
 | .agg q::l=>(jA l).map fun r=> .inr q::r
 |_=>none
def YU(T:FI)(σ:St)(rs:List ResultVar):Option XV:=
 match rs.mapM (o6 T σ)with
 |some [x]=>some x
 |some l=>(jA l).map .LI
 |none=>none
def Nn:Nat→Nat→List BP→Jt
 |_,_,[]=>[]
 |i,n,p::l=>(match p with| .gone=>none|_=>if i<n then some i else none)::Nn (i+1) n l
def AV.eO(b:Nat)(r:Ty)(rows:List r.D):AV→AV
 | .ref k []=>if k=b then .sl true r rows else .ref k []
 |x=>x
def XV.eO(b:Nat)(r:Ty)(rows:List r.D):XV→XV
 | .c x=> .c (x.eO b r rows)
 |x=>x
def Bx.eO(b:Nat)(r:Ty)(rows:List r.D):Bx→Bx
 | .mem cs=> .mem (cs.map (AV.eO b r rows))
 |x=>x
def St.eO(b:Nat)(σ:St):St:=
 match σ.bx[b]? with
 |some (.sl _ r rows)=>{ tm:=σ.tm.map (XV.eO b r rows),bx:=(σ.bx.set b .dead).map (Bx.eO b r rows) }
 |_=>σ
def DO:List AP→List AV→St→St
 | .sl true _::l,.ref b []::xs,σ=>DO l xs (σ.eO b)
 |_::l,_::xs,σ=>DO l xs σ
 |_,_,σ=>σ
def VE:List (AP ⊕ List AP)→List (AV ⊕ List AV)→St→St
 | .inl p::l,.inl x::xs,σ=>VE l xs (DO [p] [x] σ)
 | .inr p::l,.inr x::xs,σ=>VE l xs (DO p x σ)
 |_::l,_::xs,σ=>VE l xs σ
 |_,_,σ=>σ
def AAv:XP→XV→St→St
 | .c p,.c x,σ=>DO [p] [x] σ
 | .agg l,.agg xs,σ=>DO l xs σ
 | .LI l,.LI xs,σ=>VE l xs σ
 |_,_,σ=>σ
def ZX(l:List (Nat×XP))(x:XV)(σ:St):St:=
 match l with
 |(_,p)::_=>AAv p x σ
 |[]=>σ
def fL(T:FI)(c:Sf)(rs:List ResultVar)(σ:St):Option c.outs.V:=
 (YU T σ rs).bind fun x=>
  let σ:=ZX c.outs.Bh x σ
  (YU T σ rs).bind fun x=>(c.outs.fit σ.bx.length (Nn 0 c.ins.C6.length c.outs.C6) [x] (c.outs.opens σ.bx)).map fun q=>q.1
def Rb(C:bV)(c:Sf)(fn:Func)(J:Nat→St→Option c.outs.V)(ω:List Bool)(v:c.ins.V):Option c.outs.V:=
 match fn.body with
 |some code=>run C J code (fun _=>fL C.T c fn.results.toList) (fun _ _ _=>none) (fun _=>fL C.T c fn.results.toList) ω (c.ins.st fn.ntmps v)
 |none=>none
def TJ(C:bV)(c:Sf)(fn:Func)(J:Nat→St→Option c.outs.V)(ℓ :Nat)(ω:List Bool)(σ:St):Option c.outs.V:=
 match fn.body with
 |some code=>
  match find C J ℓ code (fun _=>fL C.T c fn.results.toList) (fun _ _ _=>none) (fun _=>fL C.T c fn.results.toList)with
  |some f=>f ω σ
  |none=>none
 |none=>none
def KB(bs:List BP):List (Nat×XP)→St→St
 |[],σ=>σ
 |(i,.c (.sl true r))::l,σ=>
  match σ.tm[i]? with
  |some (.c x)=>KB bs l (DO [.sl true r] [x] σ)
  |_=>KB bs l σ
 |(i,.c (.ptr k _))::l,σ=>
  match bs[k]?,σ.tm[i]? with
  |some (.mem ps),some (.c (.EN b _))=>
   match σ.bx[b]? with
   |some (.mem cs)=>KB bs l (DO ps cs σ)
   |_=>KB bs l σ
  |_,_=>KB bs l σ
 |_::l,σ=>KB bs l σ
def AV.gI:AV→Bool
 | .ref _ _| .win _ _ _ _| .sl _ _ _| .nil=>true
 |_=>false
def St.forget(b j:Nat)(σ:St):St:=
 match σ.bx[b]? with
 |some (.mem cs)=>
  match cs[j]? with
  |some x=>if x.gI then{ σ with bx:=σ.bx.set b (.mem (cs.set j (.ref σ.bx.length [])))++[.dead] }else σ
  |none=>σ
 |_=>σ
def Se(bs:List BP)(b:Nat):Nat→List AP→St→St
 |_,[],σ=>σ
 |j,p::l,σ=>Se bs b (j+1) l (match p with
  | .ref q=>match bs[q]? with
   |some .gone=>σ.forget b j
   |_=>σ
  |_=>σ)
def WB(bs:List BP):List (Nat×XP)→St→St
 |[],σ=>σ
 |(i,p)::l,σ=>WB bs l (match p with
  | .c (.ptr k _)=>match bs[k]?,σ.tm[i]? with
   |some (.mem ps),some (.c (.EN b _))=>Se bs b 0 ps σ
   |_,_=>σ
  |_=>σ)
def jump(nb:Nat)(s:Bl)(f:s.V→Option Y)(σ:St):Option Y:=
 if nb≤s.C6.length then
  let σ:=WB s.C6 s.Bh (KB s.C6 s.Bh σ)
  (s.fit σ.bx.length (Nn 0 nb s.C6) σ.tm (s.opens σ.bx)).bind fun q=>f q.1
 else none
end
end Go.Fw
end
section
namespace Go.Fw
def BA(w:World)(b o:Nat)(cs:List Value):Prop:= ∀j v,cs[j]? =some v→w.cell? ⟨b,o+j,none⟩=some v
def Rd(w:World)(B:Nat→Prop):(t:Ty)→List Value→t.D→Prop
 | .int k,vs,x=>vs=[.int k x]
 | .bool,vs,x=>vs=[.bool x]
 | .str,vs,x=>vs=[.string ⟨x.toArray⟩]
 | .sl r,vs,x=> ∃a cap,vs=[.slice a (List.length x) cap]∧List.length x≤cap∧(List.length x=0∨ ∃b o,a=some ⟨b,o,none⟩∧B b∧
  ∀(i:Nat) (y:r.D),x[i]? =some y→ ∃cs,cs.length=r.n∧BA w b (o+i*r.n) cs∧Rd w B r cs y)
 | .unit,vs,_=>vs=[]
 | .cons c r,vs,x=> ∃v l,vs=v::l∧Rd w B c [v] x.1∧Rd w B r l x.2
def ks(fr:AAO)(n:Nat):Prop:= ∀i,i<n→ ¬(fr.1≤i∧i<fr.2)
def mk:Ty→Nat
 | .int .u8=>0
 |_=>1
def Ow(w:World)(S:Nat→Prop):(d:Nat)→(t:Ty)→List Value→t.D→List Nat→Prop
 |0,.sl r,vs,x,F=>Rd w S (.sl r) vs x∧F=[]
 |d+1,.sl r,vs,x,F=> ∃a cap,vs=[.slice a (List.length x) cap]∧List.length x≤cap∧
  ((
   cap=0∧F=[])∨ ∃b o arr ty fr Fs,a=some ⟨b,o,none⟩∧w.heap[b]? =some (.cells arr ty fr)∧o+cap*r.n≤arr.size∧ks fr (arr.size+mk r)∧
   F=b::List.flatten Fs∧Fs.length=List.length x∧
   ∀(i:Nat) (y:r.D) (G:AAF),x[i]? =some y→Fs[i]? =some G→ ∃cs,cs.length=r.n∧BA w b (o+i*r.n) cs∧Ow w S d r cs y G)
 |d,.cons c r,vs,x,F=> ∃v l F1 F2,vs=v::l∧F=F1++F2∧Ow w S d c [v] x.1 F1∧Ow w S d r l x.2 F2
 |_,.unit,vs,_,F=>vs=[]∧F=[]
 |_,.int k,vs,x,F=>vs=[.int k x]∧F=[]
 |_,.bool,vs,x,F=>vs=[.bool x]∧F=[]
 |_,.str,vs,x,F=>vs=[.string ⟨x.toArray⟩]∧F=[]
theorem ZP{w B}:∀{t:Ty} {vs x},Rd w B t vs x→vs.length=t.n
 | .int _,_,_,h=>by simp only[Rd]at h;subst h;rfl
 | .bool,_,_,h=>by simp only[Rd]at h;subst h;rfl
 | .str,_,_,h=>by simp only[Rd]at h;subst h;rfl
 | .sl _,_,_,h=>by simp only[Rd]at h;obtain⟨_,_,h,_⟩:=h;subst h;rfl
 | .unit,_,_,h=>by simp only[Rd]at h;subst h;rfl
 | .cons _ _,_,_,h=>by
  simp only[Rd]at h;obtain⟨_,_,rfl,_,h⟩:=h;simp[Ty.n,ZP h]
theorem Rc{w S}:∀{d} {t:Ty} {vs x F},Ow w S d t vs x F→vs.length=t.n
 |_,.int _,_,_,_,h=>by simp only[Ow]at h;rw[h.1];rfl
 |_,.bool,_,_,_,h=>by simp only[Ow]at h;rw[h.1];rfl
 |_,.str,_,_,_,h=>by simp only[Ow]at h;rw[h.1];rfl
 |0,.sl _,_,_,_,h=>by grind[Ow,ZP]
 |_+1,.sl _,_,_,_,h=>by simp only[Ow]at h;obtain⟨_,_,h,_⟩:=h;subst h;rfl
 |_,.unit,_,_,_,h=>by simp only[Ow]at h;rw[h.1];rfl
 |_,.cons _ _,_,_,_,h=>by
  simp only[Ow]at h;obtain⟨_,_,_,_,rfl,_,_,h⟩:=h;simp[Ty.n,Rc h]
theorem BA.of_block{w w':World}{b o:Nat}{cs:List Value}(h:BA w b o cs)(hb:w'.heap[b]? =w.heap[b]?):BA w' b o cs:=
 fun j v hj=>(World.cell?_of_block (a:=⟨b,o+j,none⟩) hb).trans (h j v hj)
theorem Cs{w w':World}{B B':Nat→Prop}(hB:∀b,B b→B' b)(hw:∀b,B b→w'.heap[b]? =w.heap[b]?):∀{t:Ty} {vs x},Rd w B t vs x→Rd w' B' t vs x
 | .int _,_,_,h=>by grind[Rd]
 | .bool,_,_,h=>by grind[Rd]
 | .str,_,_,h=>by grind[Rd]
 | .unit,_,_,h=>by grind[Rd]
 | .sl r,_,_,h=>by
  simp only[Rd]at h⊢;obtain⟨a,cap,h1,h2,h3⟩:=h;refine⟨a,cap,h1,h2,h3.imp id ?_⟩
  rintro⟨b,o,ha,hb,h⟩
  refine⟨b,o,ha,hB b hb,fun i y hy=> ?_⟩;obtain⟨cs,hl,hc,hr⟩:=h i y hy;exact⟨cs,hl,hc.of_block (hw b hb),Cs hB hw hr⟩
 | .cons _ _,_,_,h=>by
  simp only[Rd]at h⊢;obtain⟨v,l,h1,h2,h3⟩:=h;exact⟨v,l,h1,Cs hB hw h2,Cs hB hw h3⟩
theorem CH{w w':World}{S S':Nat→Prop}(hS:∀b,S b→S' b)(hw:∀b,S b→w'.heap[b]? =w.heap[b]?):
  ∀{d} {t:Ty} {vs x F},(∀b∈F,w'.heap[b]? =w.heap[b]?)→Ow w S d t vs x F→Ow w' S' d t vs x F
 |_,.int _,_,_,_,_,h=>by grind[Ow]
 |_,.bool,_,_,_,_,h=>by grind[Ow]
 |_,.str,_,_,_,_,h=>by grind[Ow]
 |_,.unit,_,_,_,_,h=>by grind[Ow]
 |0,.sl r,_,_,_,_,h=>by
  grind[Ow,Cs]
 |d+1,.sl r,_,x,F,hF,h=>by
  simp only[Ow]at h⊢;obtain⟨a,cap,h1,h2,h3⟩:=h;refine⟨a,cap,h1,h2,h3.imp id ?_⟩
  rintro⟨b,o,arr,ty,fr,Fs,ha,hb,h4,h5,h6,h7,h⟩
  subst h6;have wB:=hF b (by simp);refine⟨b,o,arr,ty,fr,Fs,ha,wB.trans hb,h4,h5,rfl,h7,fun i y G hy hG=> ?_⟩;obtain⟨cs,hl,hc,hr⟩:=h i y G hy hG;refine⟨cs,hl,hc.of_block wB,CH hS hw (fun c hc=>hF c ?_) hr⟩;grind[List.mem_cons_of_mem,List.mem_flatten,List.mem_of_getElem?]
 |_,.cons _ _,_,_,_,hF,h=>by
  simp only[Ow]at h⊢;obtain⟨v,l,F1,F2,h1,h2,h3,h4⟩:=h;subst h2;exact⟨v,l,F1,F2,h1,rfl,CH hS hw (fun c hc=>hF c (by simp[hc])) h3,CH hS hw (fun c hc=>hF c (by simp[hc])) h4⟩
theorem S5{w:World}{S:Nat→Prop}:∀{d} {t:Ty} {vs x F},Ow w S d t vs x F→Rd w (fun b=>S b∨b∈F) t vs x
 |_,.int _,_,_,_,h=>by grind[Ow,Rd]
 |_,.bool,_,_,_,h=>by grind[Ow,Rd]
 |_,.str,_,_,_,h=>by grind[Ow,Rd]
 |_,.unit,_,_,_,h=>by grind[Ow,Rd]
 |0,.sl r,_,_,_,h=>by
  simp only[Ow]at h;simp_all
 |d+1,.sl r,_,x,F,h=>by
  simp only[Ow]at h;simp only[Rd];obtain⟨a,cap,h1,h2,h3⟩:=h;refine⟨a,cap,h1,h2,?_⟩;rcases h3 with⟨hc,_⟩|⟨b,o,arr,ty,fr,Fs,ha,hb,h4,h5,h6,h7,h⟩
  ·omega
  ·refine .inr ⟨b,o,ha,.inr (by simp[h6]),fun i y hy=> ?_⟩
   have hi:i<Fs.length:=by
    grind
   obtain⟨cs,hl,hc,hr⟩:=h i y Fs[i] hy (ADU hi);refine⟨cs,hl,hc,Cs ?_ (fun _ _=>rfl) (S5 hr)⟩;grind[List.mem_cons_of_mem,List.mem_flatten,List.getElem_mem]
 |_,.cons _ _,_,_,_,h=>by
  simp only[Ow]at h;simp only[Rd];obtain⟨v,l,F1,F2,h1,h2,h3,h4⟩:=h;subst h2;refine⟨v,l,h1,Cs ?_ (fun _ _=>rfl) (S5 h3),Cs ?_ (fun _ _=>rfl) (S5 h4)⟩
  all_goals grind
theorem FJ{w:World}{S:Nat→Prop}:∀{d d'} {t:Ty} {vs x F},d≤d'→Ow w S d' t vs x F→
  ∃F1 F2,F.Perm (F1++F2)∧Ow w (fun b=>S b∨b∈F2) d t vs x F1
 |_,_,.int _,_,_,_,_,h=>by simp only[Ow]at h⊢;simp_all
 |_,_,.bool,_,_,_,_,h=>by simp only[Ow]at h⊢;simp_all
 |_,_,.str,_,_,_,_,h=>by simp only[Ow]at h⊢;simp_all
 |_,_,.unit,_,_,_,_,h=>by simp only[Ow]at h⊢;simp_all
 |0,d',.sl r,_,x,F,_,h=>by
  refine⟨[],F,by simp,?_⟩;simp only[Ow];exact⟨S5 h,trivial⟩
 |d+1,0,.sl r,_,x,F,hd,h=>by omega
 |d+1,d'+1,.sl r,_,x,F,hd,h=>by
  simp only[Ow]at h⊢;obtain⟨a,cap,h1,h2,h3⟩:=h;rcases h3 with⟨hc,hF⟩|⟨b,o,arr,ty,fr,Fs,ha,hb,h4,h5,h6,h7,h⟩
  ·simp_all
  ·have key:∀(n:Nat) (Fs:List AAF) (y:List r.D),Fs.length=n→y.length=n→(∀(i:Nat) (z:r.D) (G:AAF),y[i]? =some z→Fs[i]? =some G→ ∃cs,cs.length=r.n∧BA w b (o+i*r.n) cs∧Ow w S d' r cs z G)→
     ∃(Gs:List AAF) (F2:AAF),Fs.flatten.Perm (Gs.flatten++F2)∧Gs.length=n∧ ∀(i:Nat) (z:r.D) (G:AAF),y[i]? =some z→Gs[i]? =some G→ ∃cs,cs.length=r.n∧BA w b (o+i*r.n) cs∧Ow w (fun b=>S b∨b∈F2) d r cs z G:=by
    intro n
    induction n with
    |zero=>
     simp_all
    |succ n ih=>
     intro Fs y hF hy hh;obtain⟨Fs',G0,rfl⟩:∃l a,Fs=l++[a]:=⟨Fs.dropLast,Fs.getLast (by grind),(List.dropLast_concat_getLast _).symm⟩;obtain⟨y',z0,rfl⟩:∃l a,y=l++[a]:=⟨y.dropLast,y.getLast (by grind),(List.dropLast_concat_getLast _).symm⟩;simp only[AGr,AE7,AGi]at hF hy;obtain⟨Gs,F2,hp,hl,hg⟩:=ih Fs' y' (by omega) (by omega) (fun i z G hz hG=>hh i z G
      (by grind) (by grind))
     obtain⟨cs,qF,hc,ho⟩:=hh n z0 G0 (by simp_all) (by simp_all);obtain⟨H1,H2,hhp,hho⟩:=FJ (d:=d) (d':=d') (by omega) ho;refine⟨Gs++[H1],F2++H2,?_,by simp[hl],?_⟩
     ·grind
     ·intro i z G hz hG
      by_cases hi:i<n
      ·rw[AFJ (by omega)]at hz hG
       obtain⟨cs,e1,e2,e3⟩:=hg i z G hz hG;exact⟨cs,e1,e2,CH (by grind) (fun _ _=>rfl) (fun _ _=>rfl) e3⟩
      ·have:i=n:=by
        grind
       subst this;rw[AFU (by omega)]at hz hG;simp[show i-y'.length=0 by omega,show i-Gs.length=0 by omega]at hz hG;subst hz hG;exact⟨cs,qF,hc,CH (by grind) (fun _ _=>rfl) (fun _ _=>rfl) hho⟩
   obtain⟨Gs,F2,hp,hl,hg⟩:=key _ Fs x h7 rfl h;refine⟨b::Gs.flatten,F2,?_,a,cap,h1,h2,.inr ⟨b,o,arr,ty,fr,Gs,ha,hb,h4,h5,rfl,hl,hg⟩⟩;simp_all
 |d,d',.cons _ _,_,_,_,hd,h=>by
  simp only[Ow]at h⊢;obtain⟨v,l,F1,F2,h1,h2,h3,h4⟩:=h;obtain⟨A1,A2,pa,oa⟩:=FJ hd h3;obtain⟨B1,B2,pb,ob⟩:=FJ hd h4;refine⟨A1++B1,A2++B2,?_,v,l,A1,B1,h1,rfl,CH (by grind) (fun _ _=>rfl) (fun _ _=>rfl) oa,CH (by grind) (fun _ _=>rfl) (fun _ _=>rfl) ob⟩;grind
def RB(w:World):(t:Ty)→List Value→t.D→Nat→Prop
 | .sl r,vs,x,c=> ∃b o len cap,vs=[.slice (some ⟨b,o,none⟩) len cap]∧0<List.length x∧
  (c=b∨ ∃(i:Nat) (y:r.D) (cs:List Value),x[i]? =some y∧cs.length=r.n∧BA w b (o+i*r.n) cs∧RB w r cs y c)
 | .cons c r,vs,x,d=> ∃v l,vs=v::l∧(RB w c [v] x.1 d∨RB w r l x.2 d)
 |_,_,_,_=>False
theorem BA.unique{w:World}{b o:Nat}{cs ds:List Value}(h:BA w b o cs)(k:BA w b o ds)(hl:cs.length=ds.length):cs=ds:=by
 apply List.ext_getElem hl;intro i h1 h2;have e1:=h i _ (ADU h1);have e2:=k i _ (ADU h2);simp_all
theorem iS{w:World}{B:Nat→Prop}{c:Nat}:∀{t:Ty} {vs x},Rd w B t vs x→RB w t vs x c→B c
 | .int _,_,_,_,h=>by simp[RB]at h
 | .bool,_,_,_,h=>by simp[RB]at h
 | .str,_,_,_,h=>by simp[RB]at h
 | .unit,_,_,_,h=>by simp[RB]at h
 | .sl r,_,x,h,k=>by
  simp only[Rd]at h;simp only[RB]at k;obtain⟨a,cap,rfl,_,h⟩:=h;obtain⟨b,o,len,cap',e,hl,k⟩:=k;simp only[AFW,Value.slice.injEq,AGN]at e;obtain⟨rfl,rfl,rfl⟩:=e;rcases h with h|⟨b',o',e,hb,h⟩
  ·omega
  simp only[ADS,Addr.mk.injEq,AGN]at e;obtain⟨rfl,rfl⟩:=e;rcases k with rfl|⟨i,y,cs,hy,qF,hca,k⟩
  ·omega
  ·obtain⟨ds,d1,d2,d3⟩:=h i y hy
   have:=hca.unique d2 (by omega);subst this;exact iS d3 k
 | .cons _ _,_,_,h,k=>by
  simp only[Rd]at h;simp only[RB]at k;obtain⟨v,l,rfl,h1,h2⟩:=h;obtain⟨v',l',e,k⟩:=k;cases e;exact k.elim (iS h1) (iS h2)
theorem ba{w w':World}{c:Nat}:∀{t:Ty} {vs x},(∀d,RB w t vs x d→w'.heap[d]? =w.heap[d]?)→RB w t vs x c→RB w' t vs x c
 | .int _,_,_,_,h=>by simp[RB]at h
 | .bool,_,_,_,h=>by simp[RB]at h
 | .str,_,_,_,h=>by simp[RB]at h
 | .unit,_,_,_,h=>by simp[RB]at h
 | .sl r,_,x,h,k=>by
  simp only[RB]at h k⊢;obtain⟨b,o,len,cap,e,hl,k⟩:=k;refine⟨b,o,len,cap,e,hl,?_⟩;rcases k with rfl|⟨i,y,cs,hy,qF,hca,k⟩
  ·omega
  ·have hb:=h b ⟨b,o,len,cap,e,hl,.inl rfl⟩
   exact .inr ⟨i,y,cs,hy,qF,hca.of_block hb,ba (fun d hd=>h d ⟨b,o,len,cap,e,hl,.inr ⟨i,y,cs,hy,qF,hca,hd⟩⟩) k⟩
 | .cons _ _,_,_,h,k=>by
  simp only[RB]at h k⊢;obtain⟨v,l,e,k⟩:=k;refine⟨v,l,e,k.elim (fun k=> .inl (ba (fun d hd=>h d ⟨v,l,e,.inl hd⟩) k)) (fun k=> .inr (ba (fun d hd=>h d ⟨v,l,e,.inr hd⟩) k))⟩
end Go.Fw
end
section
namespace Go.Fw
def A5{α β:Type}(R:α→β→Prop):List α→List β→Prop
 |[],[]=>True
 |a::l,b::m=>R a b∧A5 R l m
 |_,_=>False
theorem A5.len{α β:Type}{R:α→β→Prop}:∀{l:List α} {m:List β},A5 R l m→l.length=m.length
 |[],[],_=>rfl
 |_::_,_::_,h=>by simp[A5.len h.2]
theorem A5.get{α β:Type}{R:α→β→Prop}:∀{l:List α} {m:List β} {i:Nat} {a:α},A5 R l m→l[i]? =some a→ ∃b,m[i]? =some b∧R a b
 |_::_,_::_,0,a,h,e=>by simp at e;subst e;exact⟨_,rfl,h.1⟩
 |_::_,_::_,i+1,a,h,e=>by
  obtain⟨b,hb,hr⟩:=A5.get (i:=i) h.2 (by simpa using e);simp_all
 |[],[],_,_,_,e=>by simp at e
theorem A5.imp{α β:Type}{R S:α→β→Prop}(h:∀a b,R a b→S a b):∀{l:List α} {m:List β},A5 R l m→A5 S l m
 |[],[],_=>trivial
 |_::_,_::_,k=>⟨h _ _ k.1,A5.imp h k.2⟩
structure Env where
 Du:Nat→Nat
 EK:Nat→Value
 T:Nat→Prop
 S:Nat→Prop
def Ex(w:World):Value→List Y_→Option Value
 |h,[]=>some h
 | .slice (some a) _ _,s::p=>
  match w.cell? ⟨a.block,a.off+s.i*s.sz+s.j,none⟩with
  |some h=>Ex w h p
  |none=>none
 |_,_::_=>none
def BU:(r:Ty)→List r.D→List Y_→Prop
 |_,_,[]=>True
 |r,rows,s::p=>s.i<rows.length∧s.sz=r.n∧
  match Af r s.j (rowAt r rows s.i)with
  |some ⟨.sl q,x⟩=>BU q x p
  |_=>False
def Pp(sz off n:Nat)(a:Option Addr)(cap:Nat):Value:=
 .slice (if cap=off then a else a.map (·.add (off*sz))) n (cap-off)
def isSlice:Value→Bool
 | .slice .. =>true
 |_=>false
def Vm:Value→Bool
 | .pointer (some ⟨_,_,none⟩)=>true
 |_=>false
def RA(E:Env)(w:World)(q:(r:Ty)×r.D)(p:Value):Prop:= ∃bb o cs,p= .pointer (some ⟨bb,o,none⟩)∧E.T bb∧cs.length=q.1.n∧BA w bb o cs∧Rd w E.T q.1 cs q.2
def VR(E:Env)(w:World)(vw:List Bx):AV→Value→Prop
 | .v t x,v=>t.scalar=true∧Rd w (fun _=>False) t [v] x
 | .sl s r x,v=>Rd w (if s then E.S else E.T) (.sl r) [v] x
 | .nil,v=>v= .slice none 0 0
 | .ref b p,v=>isSlice v=true∧match vw[b]? with
  |some (.sl _ r rows)=>BU r rows p∧(∃q,DK r rows p=some q)∧Ex w (E.EK b) p=some v
  |some _=>True
  |none=>False
 | .win b p off n,v=>isSlice v=true∧match vw[b]? with
  |some (.sl _ r rows)=>BU r rows p∧ ∃q ys a len cap,DK r rows p=some ⟨q,ys⟩∧off+n≤List.length ys∧Ex w (E.EK b) p=some (.slice a len cap)∧v=Pp q.n off n a cap
  |some _=>True
  |none=>False
 | .EN b j,v=>b<vw.length∧v= .pointer (some ⟨E.Du b,j,none⟩)
 | .E7 b p i sz j,v=>Vm v=true∧match vw[b]? with
  |some (.sl _ r rows)=>BU r rows p∧ ∃q ys bb o len cap,DK r rows p=some ⟨q,ys⟩∧i<List.length ys∧Ex w (E.EK b) p=some (.slice (some ⟨bb,o,none⟩) len cap)∧v= .pointer (some ⟨bb,o+i*sz+j,none⟩)
  |some _=>True
  |none=>False
 | .Jj s r x j,v=> ∃bb o cs,v= .pointer (some ⟨bb,o+j,none⟩)∧(if s then E.S else E.T) bb∧cs.length=r.n∧BA w bb o cs∧Rd w (if s then E.S else E.T) r cs x
 | .fn f Fj,v=>(∀b∈Fj,b<vw.length)∧v= .func (.func f) #[] (Fj.map fun b=>Value.pointer (some ⟨E.Du b,0,none⟩)).toArray
 | .gU f rows,v=> ∃ps:List Value,v= .func (.func f) #[] ps.toArray∧A5 (RA E w) rows ps
 | .l5,v=>v= .pointer none
 | .undef,_=>True
def X7(E:Env)(w:World)(vw:List Bx)(l:List AV)(vs:List Value):Prop:=A5 (VR E w vw) l vs
def TR(E:Env)(w:World)(vw:List Bx):AV ⊕ List AV→Value→Prop
 | .inl x,v=>VR E w vw x v
 | .inr q,v=> ∃vs,v= .agg vs∧X7 E w vw q vs.toList
def XR(E:Env)(w:World)(vw:List Bx):XV→Value→Prop
 | .c x,v=>VR E w vw x v
 | .agg l,v=> ∃vs,v= .agg vs∧X7 E w vw l vs.toList
 | .LI l,v=> ∃vs,v= .tuple vs∧A5 (TR E w vw) l vs.toList
def dN(E:Env)(w:World)(vw:List Bx)(k:Nat):Bx→List Nat→Prop
 | .mem cs,F=>F=[E.Du k]∧ ∃arr ty fr,w.heap[E.Du k]? =some (.cells arr ty fr)∧ks fr (arr.size+1)∧X7 E w vw cs arr.toList
 | .sl d r rows,F=>1≤d∧Ow w E.S d (.sl r) [E.EK k] rows F
 | .dead,F=>F=[]
structure Sep (E:Env) (w:World) (F:AAF):Prop where
 nodup:F.Nodup
 free:∀c∈F,¬E.T c
 lt:∀c∈F,c<w.heap.size
 st:∀c,E.S c→E.T c
 W3:∀c,E.T c→c<w.heap.size
def Hy(E:Env)(w:World)(vw bx:List Bx)(Fs:List AAF):Prop:=
 Fs.length=bx.length∧ ∀k B F,bx[k]? =some B→Fs[k]? =some F→dN E w vw k B F
def BR(E:Env)(w:World)(vw bx:List Bx)(G:AAF):Prop:=
 ∃Fs,Hy E w vw bx Fs∧Sep E w (Fs.flatten++G)
structure Le (E E':Env):Prop where
 Du:E'.Du=E.Du
 EK:E'.EK=E.EK
 T:∀c,E.T c→E'.T c
 S:∀c,E.S c→E'.S c
 sI:∀c,E'.T c→E.T c∨E'.S c
 kJ:∀c,E'.S c→E.S c∨ ¬E.T c
theorem Le.refl(E:Env):Le E E:=⟨rfl,rfl,fun _ h=>h,fun _ h=>h,fun _ h=> .inl h,fun _ h=> .inl h⟩
theorem Le.trans{E E' ow:Env}(h:Le E E')(k:Le E' ow):Le E ow:=
 ⟨k.Du.trans h.Du,k.EK.trans h.EK,fun c hc=>k.T c (h.T c hc),fun c hc=>k.S c (h.S c hc),
  fun c hc=>(k.sI c hc).elim (fun h' =>(h.sI c h').imp id (k.S c)) .inr,
  fun c hc=>(k.kJ c hc).elim (h.kJ c) (fun h' => .inr fun ht=>h' (h.T c ht))⟩
theorem Wh{w B}:∀{r:Ty} {cs x j t y},Rd w B r cs x→Af r j x=some ⟨t,y⟩→ ∃v,cs[j]? =some v∧Rd w B t [v] y
 | .cons c r,cs,x,0,t,y,h,e=>by
  simp only[Rd]at h;obtain⟨v,l,rfl,h1,h2⟩:=h;simp only[Af,ADS,AEY]at e;grind
 | .cons c r,cs,x,j+1,t,y,h,e=>by
  simp only[Rd]at h;obtain⟨v,l,rfl,h1,h2⟩:=h;simp only[Af]at e;obtain⟨u,hu,hr⟩:=Wh h2 e;simp_all
 | .int k,cs,x,0,t,y,h,e=>by
  simp only[Af,ADS,AEY]at e;obtain⟨rfl,e⟩:=e;obtain rfl:=AFq e;simp only[Rd]at h;subst h;exact⟨_,rfl,by rfl⟩
 | .bool,cs,x,0,t,y,h,e=>by
  simp only[Af,ADS,AEY]at e;obtain⟨rfl,e⟩:=e;obtain rfl:=AFq e;simp only[Rd]at h;subst h;exact⟨_,rfl,by rfl⟩
 | .str,cs,x,0,t,y,h,e=>by
  simp only[Af,ADS,AEY]at e;obtain⟨rfl,e⟩:=e;obtain rfl:=AFq e;simp only[Rd]at h;subst h;exact⟨_,rfl,by rfl⟩
 | .sl r,cs,x,0,t,y,h,e=>by
  simp only[Af,ADS,AEY]at e;obtain⟨rfl,e⟩:=e;obtain rfl:=AFq e;have h':=h;simp only[Rd]at h;grind
 | .unit,_,_,_,_,_,_,e=>by simp[Af]at e
 | .int _,_,_,_+1,_,_,_,e=>by simp[Af]at e
 | .bool,_,_,_+1,_,_,_,e=>by simp[Af]at e
 | .str,_,_,_+1,_,_,_,e=>by simp[Af]at e
 | .sl _,_,_,_+1,_,_,_,e=>by simp[Af]at e
theorem LJ{r:Ty}{rows:List r.D}{i:Nat}(h:i<rows.length):rows[i]? =some (rowAt r rows i):=by
 simp[rowAt,h]
theorem bO{w:World}{B:Nat→Prop}:∀{p:List Y_} {r:Ty} {h:Value} {rows:List r.D} {q:Ty} {ys:List q.D},
  Rd w B (.sl r) [h] rows→BU r rows p→DK r rows p=some ⟨q,ys⟩→
  ∃h',(∀w':World,(∀b,B b→w'.heap[b]? =w.heap[b]?)→Ex w' h p=some h')∧Rd w B (.sl q) [h'] ys
 |[],r,h,rows,q,ys,hr,_,hg=>by
  simp only[DK,ADS,AEY]at hg;obtain⟨rfl,e⟩:=hg;obtain rfl:=AFq e;exact⟨h,fun w' _=>by rfl,hr⟩
 |s::p,r,h,rows,q,ys,hr,hp,hg=>by
  simp only[BU]at hp;obtain⟨hi,LW,hp⟩:=hp;simp only[DK]at hg;simp only[Rd]at hr;obtain⟨a,cap,hh,_,hr⟩:=hr;obtain rfl:=(List.cons.inj hh).1;rcases hr with hr|⟨b,o,rfl,hb,hr⟩
  ·omega
  obtain⟨cs,hl,hc,hrow⟩:=hr s.i _ (LJ hi);split at hg
  ·rename_i q' x' XY
   rw[XY]at hp;obtain⟨v,hv,hrv⟩:=Wh hrow XY;obtain⟨h',hh',Uu⟩:=bO hrv hp hg;refine⟨h',fun w' hw' => ?_,Uu⟩;simp only[Ex];have Uj:w'.cell? ⟨b,o+s.i*s.sz+s.j,none⟩=some v:=by
    rw[LW];exact(World.cell?_of_block (a:=⟨b,_,none⟩) (hw' b hb)).trans (hc _ _ hv)
   simp_all
  simp_all
theorem Bc{w:World}{h:Value}:Ex w h []=some h:=by rfl
structure M8 (E:Env) (w:World) (vw:List Bx) (E':Env) (w':World) (vw':List Bx):Prop where
 len:vw.length≤vw'.length
 Du:∀b,b<vw.length→E'.Du b=E.Du b
 T:∀b,E.T b→E'.T b
 S:∀b,E.S b→E'.S b
 st:∀b,E.S b→E.T b
 heap:∀b,E.T b→w'.heap[b]? =w.heap[b]?
 box:∀b d r rows,b<vw.length→vw'[b]? =some (.sl d r rows)→ ∃d0 Lj,vw[b]? =some (.sl d0 r Lj)∧
  ∀p,BU r Lj p→ ∀q ys,DK r Lj p=some ⟨q,ys⟩→BU r rows p∧(∃ix,DK r rows p=some ⟨q,ix⟩∧List.length ix=List.length ys)∧
   ∀h,Ex w (E.EK b) p=some h→Ex w' (E'.EK b) p=some h
theorem Jy{α:Type}{l l':List α}{b:Nat}{x:α}(h:l.length≤l'.length)(e:l[b]? =some x):∃y,l'[b]? =some y:=
 ⟨l'[b]'(AF3 (ADa.1 e).1 h),ADU _⟩
theorem C2{E E':Env}{w w':World}{vw vw':List Bx}(k:M8 E w vw E' w' vw'):∀{x:AV} {v:Value},VR E w vw x v→VR E' w' vw' x v:=by
 intro x v h;cases x with
 |v t x=>exact⟨h.1,Cs (fun _ h=>h) (fun _ h=>h.elim) h.2⟩
 |sl s r x=>
  simp only[VR]at h⊢;cases s with
  |false=>exact Cs k.T k.heap (by simp_all)
  |true=>exact Cs k.S (fun b hb=>k.heap b (k.st b hb)) (by simp_all)
 |nil=>exact h
 |ref b p=>
  simp only[VR]at h⊢;obtain⟨h0,h⟩:=h;refine⟨h0,?_⟩;cases e:vw[b]? with
  |none=>simp_all
  |some B=>
   rw[e]at h;have RF:=(ADa.1 e).1;obtain⟨B',e'⟩:=Jy k.len e;rw[e'];cases B' with
   |mem cs=>trivial
   |dead=>trivial
   |sl d r rows=>
    obtain⟨d0,Lj,e0,hk⟩:=k.box b d r rows RF e';grind
 |win b p off n=>
  simp only[VR]at h⊢;obtain⟨h0,h⟩:=h;refine⟨h0,?_⟩;cases e:vw[b]? with
  |none=>simp_all
  |some B=>
   rw[e]at h;have RF:=(ADa.1 e).1;obtain⟨B',e'⟩:=Jy k.len e;rw[e'];cases B' with
   |mem cs=>trivial
   |dead=>trivial
   |sl d r rows=>
    obtain⟨d0,Lj,e0,hk⟩:=k.box b d r rows RF e';grind
 |EN b j=>exact⟨AF3 h.1 k.len,by rw[h.2,k.Du b h.1]⟩
 |E7 b p i sz j=>
  simp only[VR]at h⊢;obtain⟨h0,h⟩:=h;refine⟨h0,?_⟩;cases e:vw[b]? with
  |none=>simp_all
  |some B=>
   rw[e]at h;have RF:=(ADa.1 e).1;obtain⟨B',e'⟩:=Jy k.len e;rw[e'];cases B' with
   |mem cs=>trivial
   |dead=>trivial
   |sl d r rows=>
    obtain⟨d0,Lj,e0,hk⟩:=k.box b d r rows RF e';grind
 |Jj s r x j=>
  simp only[VR]at h⊢;obtain⟨bb,o,cs,hv,hb,hl,hc,hr⟩:=h;cases s with
  |false=>exact⟨bb,o,cs,hv,k.T bb (by simp_all),hl,hc.of_block (k.heap bb (by simp_all)),Cs k.T k.heap (by simp_all)⟩
  |true=>exact⟨bb,o,cs,hv,k.S bb (by simp_all),hl,hc.of_block (k.heap bb (k.st bb (by simp_all))),Cs k.S (fun b hb=>k.heap b (k.st b hb)) (by simp_all)⟩
 |fn f Fj=>
  refine⟨fun b hb=>AF3 (h.1 b hb) k.len,?_⟩;rw[h.2];congr 2;exact AG2 fun b hb=>by rw[k.Du b (h.1 b hb)]
 |gU f rows=>
  obtain⟨ps,hv,h⟩:=h;exact⟨ps,hv,h.imp fun q p ⟨bb,o,cs,h1,h2,h3,h4,h5⟩=>⟨bb,o,cs,h1,k.T bb h2,h3,h4.of_block (k.heap bb h2),Cs k.T k.heap h5⟩⟩
 |l5=>exact h
 |undef=>trivial
theorem JS{E E':Env}{w w':World}{vw vw':List Bx}(k:M8 E w vw E' w' vw'):∀{x:XV} {v:Value},XR E w vw x v→XR E' w' vw' x v
 | .c _,_,h=>C2 k h
 | .agg _,_,⟨vs,hv,h⟩=>⟨vs,hv,h.imp fun _ _ h=>C2 k h⟩
 | .LI l,_,⟨vs,hv,h⟩=>⟨vs,hv,h.imp fun
  | .inl _,_,h=>C2 k h
  | .inr _,_,⟨ws,hw,h⟩=>⟨ws,hw,h.imp fun _ _ h=>C2 k h⟩⟩
theorem M8.refl{E:Env}{w:World}{vw:List Bx}(st:∀b,E.S b→E.T b):M8 E w vw E w vw:=
 ⟨AF2 _,fun _ _=>rfl,fun _ h=>h,fun _ h=>h,st,fun _ _=>rfl,fun b d r rows _ h=>⟨d,rows,h,fun p hp q ys hg=>⟨hp,⟨ys,hg,rfl⟩,fun _ h=>h⟩⟩⟩
theorem M8.trans{E E' ow:Env}{w w' w'':World}{vw vw' ABi:List Bx}(k:M8 E w vw E' w' vw')(k':M8 E' w' vw' ow w'' ABi):M8 E w vw ow w'' ABi where
 len:=AGG k.len k'.len
 Du:=fun b hb=>(k'.Du b (AF3 hb k.len)).trans (k.Du b hb)
 T:=fun b h=>k'.T b (k.T b h)
 S:=fun b h=>k'.S b (k.S b h)
 st:=k.st
 heap:=fun b h=>(k'.heap b (k.T b h)).trans (k.heap b h)
 box:=fun b d r rows hb h=>by
  obtain⟨d1,wP,h1,k1⟩:=k'.box b d r rows (AF3 hb k.len) h;obtain⟨d0,Lj,h0,k0⟩:=k.box b d1 r wP hb h1;grind
theorem gl{w w':World}{S:Nat→Prop}{d:Nat}{r:Ty}{h:Value}{rows:List r.D}{F:AAF}(ho:Ow w S d (.sl r) [h] rows F)
  (hS:∀b,S b→w'.heap[b]? =w.heap[b]?) (hF:∀b∈F,w'.heap[b]? =w.heap[b]?) {p:List Y_} (hp:BU r rows p) {q:Ty} {ys:List q.D} (hg:DK r rows p=some ⟨q,ys⟩)
  {h':Value} (hh:Ex w h p=some h'):Ex w' h p=some h':=by
 obtain⟨h1,k,_⟩:=bO (S5 ho) hp hg;grind
end Go.Fw
end
section
namespace Go.Fw
theorem A5.set{α β:Type}{R:α→β→Prop}:∀{l:List α} {m:List β} {i:Nat} {a:α} {b:β},A5 R l m→R a b→A5 R (l.set i a) (m.set i b)
 |[],[],_,_,_,_,_=>trivial
 |_::_,_::_,0,_,_,h,r=>⟨r,h.2⟩
 |_::_,_::_,i+1,_,_,h,r=>⟨h.1,A5.set h.2 r⟩
theorem A5.append{α β:Type}{R:α→β→Prop}:∀{l:List α} {m:List β} {l':List α} {m':List β},A5 R l m→A5 R l' m'→A5 R (l++l') (m++m')
 |[],[],_,_,_,h=>h
 |_::_,_::_,_,_,h,k=>⟨h.1,A5.append h.2 k⟩
theorem A5.GQ{α β γ:Type}{R:α→β→Prop}{S:γ→β→Prop}(f:α→γ)(h:∀a b,R a b→S (f a) b):∀{l:List α} {m:List β},A5 R l m→A5 S (l.map f) m
 |[],[],_=>trivial
 |_::_,_::_,k=>⟨h _ _ k.1,A5.GQ f h k.2⟩
theorem A5.drop{α β:Type}{R:α→β→Prop}:∀{l:List α} {m:List β} (n:Nat),A5 R l m→A5 R (l.drop n) (m.drop n)
 |_,_,0,h=>h
 |[],[],_+1,_=>trivial
 |_::_,_::_,n+1,h=>A5.drop n h.2
theorem A5.take{α β:Type}{R:α→β→Prop}:∀{l:List α} {m:List β} (n:Nat),A5 R l m→A5 R (l.take n) (m.take n)
 |[],[],0,_=>trivial
 |_::_,_::_,0,_=>trivial
 |[],[],_+1,_=>trivial
 |_::_,_::_,n+1,h=>⟨h.1,A5.take n h.2⟩
structure Wz (E0:Env) (w0:World) (E:Env) (w:World):Prop where
 T:∀c,E0.T c→E.T c
 S:∀c,E0.S c→E.S c
 sI:∀c,E.T c→E0.T c∨E.S c
 kJ:∀c,E.S c→E0.S c∨ ¬E0.T c
 heap:∀c,E0.T c→w.heap[c]? =w0.heap[c]?
 os:w.os=w0.os
 tape:w.tape=w0.tape
 output:w.output=w0.output
 size:w0.heap.size≤w.heap.size
theorem Wz.refl(E:Env)(w:World):Wz E w E w:=⟨fun _ h=>h,fun _ h=>h,fun _ h=> .inl h,fun _ h=> .inl h,fun _ _=>rfl,rfl,rfl,rfl,AF2 _⟩
theorem Wz.trans{E E' ow:Env}{w w' w'':World}(h:Wz E w E' w')(k:Wz E' w' ow w''):Wz E w ow w'':=
 ⟨fun c hc=>k.T c (h.T c hc),fun c hc=>k.S c (h.S c hc),fun c hc=>(k.sI c hc).elim (fun h' =>(h.sI c h').imp id (k.S c)) .inr,
  fun c hc=>(k.kJ c hc).elim (h.kJ c) (fun h' => .inr fun ht=>h' (h.T c ht)),fun c hc=>(k.heap c (h.T c hc)).trans (h.heap c hc),
  k.os.trans h.os,k.tape.trans h.tape,k.output.trans h.output,AGG h.size k.size⟩
theorem Le.base{E E':Env}(h:Le E E')(w:World):Wz E w E' w:=⟨h.T,h.S,h.sI,h.kJ,fun _ _=>rfl,rfl,rfl,rfl,AF2 _⟩
def kH(E:Env)(w:World)(k:Nat):Bx→Nat→Prop
 | .mem _,c=>c=E.Du k
 | .sl _ r rows,c=>RB w (.sl r) [E.EK k] rows c
 | .dead,_=>False
def Pl:Bx→Bx→Prop
 | .mem _,.mem _=>True
 | .sl _ r x,.sl _ q y=>(⟨r,x⟩:(r:Ty)×List r.D)=⟨q,y⟩
 |_,_=>False
structure LV (t:AAF) (E0:Env) (bx0:List Bx) (w0:World) (E:Env) (bx:List Bx) (w:World):Prop where
 base:Wz E0 w0 E w
 len:bx0.length≤bx.length
 ids:∀b,b<bx0.length→E.Du b=E0.Du b∧E.EK b=E0.EK b
 dead:∀b:Nat,bx0[b]? =some Bx.dead→bx[b]? =some Bx.dead
 frame:∀(n:Nat) B B',n∉t→bx0[n]? =some B→bx[n]? =some B'→B'≠ .dead→Pl B B'∧ ∀c,kH E0 w0 n B c→w.heap[c]? =w0.heap[c]?
theorem LV.any{E E':Env}{bx K6:List Bx}{w w':World}(h:LV [] E bx w E' K6 w'){t:AAF}:LV t E bx w E' K6 w':=
 ⟨h.base,h.len,h.ids,h.dead,fun n B B' _=>h.frame n B B' (by simp)⟩
theorem Pl.refl{B:Bx}(h:B≠ .dead):Pl B B:=by cases B<;>simp_all[Pl]
theorem LV.refl(t:AAF)(E:Env)(bx:List Bx)(w:World):LV t E bx w E bx w:=⟨Wz.refl E w,AF2 _,fun _ _=>⟨rfl,rfl⟩,fun _ h=>h,fun n B B' _ h h' hd=>by
 rw[h]at h';cases h';exact⟨Pl.refl hd,fun _ _=>rfl⟩⟩
theorem Wj{E:Env}{w:World}{vw:List Bx}{k:Nat}{B:Bx}{F:AAF}{c:Nat}(h:dN E w vw k B F)(hc:kH E w k B c):E.S c∨c∈F:=by
 cases B with
 |mem cs=>obtain⟨rfl,_⟩:=h;grind[kH]
 |sl d r rows=>exact iS (S5 h.2) hc
 |dead=>exact hc.elim
structure Rel (E:Env) (σ:St) (a:Act) (w:World):Prop where
 ID:a.defers=[]
 tm:A5 (XR E w σ.bx) σ.tm a.tmps.toList
 bx:BR E w σ.bx σ.bx []
theorem Rel.put{E:Env}{σ:St}{a:Act}{w:World}(h:Rel E σ a w)(dst:Option Tmp){x:XV}{v:Value}(hx:XR E w σ.bx x v):Rel E (σ.put dst x) (a.put dst v) w:=by
 cases dst with
 |none=>exact h
 |some d=>exact⟨h.ID,by simpa[St.put,Act.put]using A5.set h.tm hx,h.bx⟩
theorem A5.yx{E:Env}{w:World}{vw:List Bx}{l:List XV}{m:Array Value}(h:A5 (XR E w vw) l m.toList)(t:Nat):XR E w vw (l.getD t (.c .undef)) (m.getD t undef):=by
 by_cases ht:t<l.length
 ·have e:l[t]? =some l[t]:=ADU ht
  obtain⟨b,hb,hr⟩:=h.get e;simp_all
 ·have e:l[t]? =none:=by simp_all
  simp only[List.getD_eq_getElem?_getD,e,Option.getD_none]
  trivial
theorem fz{E:Env}{w:World}{vw:List Bx}(v:Value):VR E w vw (cy v) v:=by
 unfold cy;split<;>first
  |trivial
  |exact⟨rfl,by simp[Rd]⟩
  |rfl
theorem Z4{E:Env}{w:World}{vw:List Bx}:∀(l:List Value),X7 E w vw (l.map cy) l
 |[]=>trivial
 |a::l=>⟨fz a,Z4 l⟩
theorem k9{E:Env}{w:World}{vw:List Bx}(v:Value):XR E w vw (ofValue v) v:=by
 unfold ofValue;split
 ·rename_i cs
  exact⟨cs,rfl,Z4 cs.toList⟩
 ·exact fz v
theorem Rel.ev{E:Env}{σ:St}{a:Act}{w:World}(h:Rel E σ a w)(x:Operand):XR E w σ.bx (σ.ev x) (a.eval x):=by
 cases x with
 |tmp t=>exact A5.yx h.tm t
 |const v=>exact k9 v
 |global g=>trivial
 |func f=>exact⟨by simp,rfl⟩
theorem PW{b:Nat}:∀{Fs:List AAF} {F:AAF},Fs[b]? =some F→Fs.flatten.Perm (F++(Fs.set b []).flatten):=by
 induction b with
 |zero=>
  intro Fs F h;cases Fs with
  |nil=>simp at h
  |cons A l=>simp_all
 |succ b ih=>
  intro Fs F h;cases Fs with
  |nil=>simp at h
  |cons A l=>
   grind
theorem Sep.perm{E:Env}{w:World}{F F':AAF}(h:Sep E w F)(p:F.Perm F'):Sep E w F':=
 ⟨p.nodup_iff.1 h.nodup,fun c hc=>h.free c (p.mem_iff.2 hc),fun c hc=>h.lt c (p.mem_iff.2 hc),h.st,h.W3⟩
theorem Sep.sub{E:Env}{w:World}{F F':AAF}(h:Sep E w (F++F')):Sep E w F:=
 ⟨(AEO.1 h.nodup).1,fun c hc=>h.free c (by simp[hc]),fun c hc=>h.lt c (by simp[hc]),h.st,h.W3⟩
theorem BR.perm{E:Env}{w:World}{vw bx:List Bx}{G G':AAF}(h:BR E w vw bx G)(p:G.Perm G'):BR E w vw bx G':=
 let⟨Fs,h1,h2⟩:=h
 ⟨Fs,h1,h2.perm (AGt _ p)⟩
theorem BR.drop{E:Env}{w:World}{vw bx:List Bx}{G G':AAF}(h:BR E w vw bx (G++G')):BR E w vw bx G:=
 let⟨Fs,h1,h2⟩:=h
 ⟨Fs,h1,by rw[←AEJ]at h2;exact h2.sub⟩
theorem BR.st{E:Env}{w:World}{vw bx:List Bx}{G:AAF}(h:BR E w vw bx G):∀c,E.S c→E.T c:=let⟨_,_,h⟩:=h;h.st
theorem BR.W3{E:Env}{w:World}{vw bx:List Bx}{G:AAF}(h:BR E w vw bx G):∀c,E.T c→c<w.heap.size:=let⟨_,_,h⟩:=h;h.W3
theorem BR.oX{E:Env}{w:World}{vw bx:List Bx}{G:AAF}(h:BR E w vw bx G):∀c∈G,¬E.T c:=let⟨_,_,h⟩:=h;fun c hc=>h.free c (by simp[hc])
theorem BR.take{E:Env}{w:World}{vw bx:List Bx}{G:AAF}(h:BR E w vw bx G){b:Nat}{B:Bx}(hb:bx[b]? =some B):
  ∃F,dN E w vw b B F∧BR E w vw (bx.set b .dead) (F++G):=by
 obtain⟨Fs,⟨hl,h1⟩,h2⟩:=h;have RF:=(ADa.1 hb).1;have hF:Fs[b]? =some (Fs[b]'(by omega)):=ADU _;refine⟨_,h1 b B _ hb hF,Fs.set b [],⟨by simp_all,fun k C F hk hkF=> ?_⟩,h2.perm ?_⟩
 ·by_cases e:k=b
  ·subst e
   rw[AGJ (by omega)]at hk hkF;cases hk;cases hkF;rfl
  grind
 grind[List.Perm.append_right,PW,List.append_assoc,List.perm_append_comm,trans,List.Perm.append_left]
theorem BR.put{E:Env}{w:World}{vw bx:List Bx}{F G:AAF}(h:BR E w vw bx (F++G)){b:Nat}{B:Bx}(hb:bx[b]? =some .dead)(hB:dN E w vw b B F):
  BR E w vw (bx.set b B) G:=by
 obtain⟨Fs,⟨hl,h1⟩,h2⟩:=h;have RF:=(ADa.1 hb).1;have hF:Fs[b]? =some (Fs[b]'(by omega)):=ADU _;have e0:Fs[b]'(by omega)=[]:=h1 b _ _ hb hF;refine⟨Fs.set b F,⟨by simp_all,fun k C F' hk hkF=> ?_⟩,h2.perm ?_⟩
 ·grind
 ·have p:(Fs.set b F).flatten.Perm (F++Fs.flatten):=by
   have p1:=PW (Fs:=Fs.set b F) (b:=b) (F:=F) (AGJ (by omega));rw[List.set_set]at p1;have p2:=PW hF;grind
  grind
theorem BR.push{E:Env}{w:World}{vw bx:List Bx}{F G:AAF}(h:BR E w vw bx (F++G)){B:Bx}(hB:dN E w vw bx.length B F):
  BR E w vw (bx++[B]) G:=by
 obtain⟨Fs,⟨hl,h1⟩,h2⟩:=h;refine⟨Fs++[F],⟨by simp[hl],fun k C F' hk hkF=> ?_⟩,h2.perm (by simp)⟩;grind
theorem BR.turn{E E':Env}{w w':World}{vw vw' bx:List Bx}{G:AAF}(h:BR E w vw bx G)(k:∀x v,VR E w vw x v→VR E' w' vw' x v)
  (hS:∀c,E.S c→E'.S c) (qA:∀b,b<bx.length→E'.Du b=E.Du b) (YR:∀b,b<bx.length→E'.EK b=E.EK b)
  (hw:∀c,(E.S c∨(¬E.T c∧c∉G))→c<w.heap.size→w'.heap[c]? =w.heap[c]?)
  (oU:∀F,Sep E w (F++G)→Sep E' w' (F++G)):BR E' w' vw' bx G:=by
 obtain⟨Fs,⟨hl,h1⟩,h2⟩:=h;refine⟨Fs,⟨hl,fun n B F hn hF=> ?_⟩,oU _ h2⟩;have RF:=(ADa.1 hn).1;have h3:=h1 n B F hn hF;have xu:∀c∈F,c∈Fs.flatten:=fun c hc=>AFz.2 ⟨F,AFB hF,hc⟩
 have hFw:∀c∈F,w'.heap[c]? =w.heap[c]?:=fun c hc=>hw c (.inr ⟨h2.free c (by simp_all),fun hg=>by
  have:=(AEO.1 h2.nodup).2.2 c (xu c hc) c hg;omega⟩) (h2.lt c (by simp_all))
 have gV:∀c,E.S c→w'.heap[c]? =w.heap[c]?:=fun c hc=>hw c (.inl hc) (h2.W3 c (h2.st c hc))
 cases B with
 |mem cs=>
  obtain⟨rfl,arr,ty,fr,ha,hu,hv⟩:=h3;refine⟨by simp_all,arr,ty,fr,?_,hu,hv.imp k⟩;simp_all
 |sl d r rows=>
  obtain⟨hd,ho⟩:=h3;refine⟨hd,?_⟩;grind[CH]
 |dead=>exact h3
end Go.Fw
end
section
namespace Go.Fw
theorem DX{β:Ty→Type}{a b:Ty}{x:β a}{y:β b}(h:J3 a b x=some y):∃e:a=b,e▸x=y:=by
 grind[J3]
def Cf(bk vw:List Bx):Prop:= ∀(b:Nat) (B:Bx),bk[b]? =some B→B= .dead∨vw[b]? =some B
theorem Cf.refl(bx:List Bx):Cf bx bx:=fun _ _ h=> .inr h
theorem Addr.add_eq(b o n:Nat):(⟨b,o,none⟩:Addr).add n=⟨b,o+n,none⟩:=by grind[Addr.add]
theorem lZ{w:World}{B:Nat→Prop}{r:Ty}{a:Option Addr}{len cap:Nat}{ys:List r.D}(h:Rd w B (.sl r) [.slice a len cap] ys){off n:Nat}(hn:off+n≤ys.length):
  Rd w B (.sl r) [Pp r.n off n a cap] ((ys.drop off).take n):=by
 simp only[Rd]at h⊢;obtain⟨a',cap',e,hc,h⟩:=h;simp only[AFW,Value.slice.injEq,AGN]at e;obtain⟨rfl,rfl,rfl⟩:=e;have hl:((ys.drop off).take n).length=n:=by grind
 refine⟨_,_,by unfold Pp;rw[hl],by omega,?_⟩;rw[hl];by_cases h0:n=0
 ·omega
 ·rcases h with h|⟨b,o,rfl,hb,h⟩
  ·omega
  ·refine .inr ⟨b,o+off*r.n,?_,hb,fun i y hy=> ?_⟩
   ·rw[AEK (by omega)]
    simp[Addr.add_eq]
   grind
def cH(E:Env)(Fs:List AAF)(c:Nat):Prop:=E.T c∨c∈Fs.flatten
section
variable{E:Env} {w:World} {vw bk:List Bx} {Fs:List AAF}
theorem Hy.get(h:Hy E w vw bk Fs){b:Nat}{B:Bx}(e:bk[b]? =some B):∃F,dN E w vw b B F∧ ∀c∈F,c∈Fs.flatten:=by
 have RF:=(ADa.1 e).1;have hF:Fs[b]? =some (Fs[b]'(by rw[h.1];omega)):=ADU _;exact⟨_,h.2 b B _ e hF,fun c hc=>AFz.2 ⟨_,AFB hF,hc⟩⟩
theorem V7(hs:Cf bk vw)(h:Hy E w vw bk Fs)(st:∀c,E.S c→E.T c){b d:Nat}{r:Ty}{rows:List r.D}(e:bk[b]? =some (.sl d r rows))
  {p:List Y_} (hp:BU r rows p) {q:Ty} {ys:List q.D} (hg:DK r rows p=some ⟨q,ys⟩) {v:Value} (hh:Ex w (E.EK b) p=some v):
  Rd w (cH E Fs) (.sl q) [v] ys:=by
 obtain⟨F,⟨_,ho⟩,hF⟩:=h.get e;obtain⟨h',k,hr⟩:=bO (S5 ho) hp hg;have:=k w (fun _ _=>rfl);rw[hh]at this;cases this;exact Cs (fun c hc=>hc.elim (fun hc=> .inl (st c hc)) (fun hc=> .inr (hF c hc))) (fun _ _=>rfl) hr
theorem Ti(hs:Cf bk vw){b d:Nat}{r:Ty}{rows:List r.D}(e:bk[b]? =some (.sl d r rows)):vw[b]? =some (.sl d r rows):=by
 rcases hs b _ e with h|h
 all_goals simp_all
theorem UX(hs:Cf bk vw)(h:Hy E w vw bk Fs)(st:∀c,E.S c→E.T c){x:AV}{v:Value}(hv:VR E w vw x v){q:Ty}{ys:List q.D}(e:Hu bk x=some ⟨q,ys⟩):
  Rd w (cH E Fs) (.sl q) [v] ys:=by
 cases x with
 |sl s r x=>
  simp only[Hu,ADS,AEY]at e;obtain⟨rfl,e⟩:=e;obtain rfl:=AFq e;simp only[VR]at hv;refine Cs (fun c hc=> ?_) (fun _ _=>rfl) hv;cases s
  ·exact .inl (by simp_all)
  ·exact .inl (st c (by simp_all))
 |ref b p=>
  grind[Hu,VR,Ti,V7]
 |win b p off n=>
  simp only[Hu]at e;split at e
  ·rename_i d r rows hb
   simp only[VR,Ti hs hb]at hv;obtain⟨_,hp,q',ix,a,len,cap,hg,hl,hh,rfl⟩:=hv;rw[hg]at e;simp only[Option.map_some,ADS,AEY]at e;obtain⟨rfl,e⟩:=e;obtain rfl:=AFq e;grind[lZ,V7]
  simp_all
 |_=>simp[Hu]at e
theorem O6(hs:Cf bk vw)(h:Hy E w vw bk Fs)(st:∀c,E.S c→E.T c){t:Ty}{x:AV}{v:Value}(hv:VR E w vw x v){y:t.D}(e:HS bk t x=some y):
  Rd w (cH E Fs) t [v] y:=by
 have sl:∀(r:Ty) (x:AV) (v:Value) (y:List r.D),VR E w vw x v→((Hu bk x).bind fun q=>J3 (β:=fun r=>List r.D) q.1 r q.2)=some y→Rd w (cH E Fs) (.sl r) [v] y:=by
  grind[Option.bind_eq_some_iff,DX,UX]
 cases x with
 |v u z=>
  simp only[HS]at e;obtain⟨e1,e2⟩:=DX e;subst e1;subst e2;exact Cs (fun _ hc=>hc.elim) (fun _ hc=>hc.elim) hv.2
 |nil=>
  cases t with
  |sl r=>
   simp only[HS,ADS]at e;subst e;simp only[VR]at hv;subst hv;simp only[Rd];simp_all
  |_=>simp[HS]at e
 |_=>
  cases t with
  |sl r=>exact sl r _ _ y hv (by simpa only[HS]using e)
  |_=>simp[HS]at e
theorem Xp(hs:Cf bk vw)(h:Hy E w vw bk Fs)(st:∀c,E.S c→E.T c):∀{r:Ty} {l:List AV} {vs:List Value} {x:r.D},X7 E w vw l vs→EI bk r l=some x→
  Rd w (cH E Fs) r vs x
 | .unit,[],[],x,_,_=>by rfl
 | .cons c r,a::l,v::vs,x,hv,e=>by
  simp only[EI,ADc,ADV]at e;obtain⟨y,e1,z,e2,rfl⟩:=e;simp only[Rd];exact⟨v,vs,rfl,O6 hs h st hv.1 e1,Xp hs h st hv.2 e2⟩
 | .unit,_::_,_,_,_,e=>by simp[EI]at e
 | .unit,[],_::_,_,hv,_=>hv.elim
 | .cons _ _,[],_,_,_,e=>by simp[EI]at e
 | .cons _ _,_::_,[],_,hv,_=>hv.elim
 | .int _,_,_,_,_,e=>by simp[EI]at e
 | .bool,_,_,_,_,e=>by simp[EI]at e
 | .str,_,_,_,_,e=>by simp[EI]at e
 | .sl _,_,_,_,_,e=>by simp[EI]at e
theorem Yt{E1:Env}{kF:List Bx}(hs:Cf bk vw)(h:Hy E w vw bk Fs)(st:∀c,E.S c→E.T c)(hT:∀c,cH E Fs c→E1.T c):
  ∀{r:Ty} {l:List AV} {vs:List Value} {x:r.D},X7 E w vw l vs→EI bk r l=some x→X7 E1 w kF (Ym r x) vs
 | .unit,[],[],x,_,_=>trivial
 | .cons c r,a::l,v::vs,x,hv,e=>by
  simp only[EI,ADc,ADV]at e;obtain⟨y,e1,z,e2,rfl⟩:=e;have Uu:=O6 hs h st hv.1 e1;have tl:X7 E1 w kF _ _:=Yt hs h st hT hv.2 e2;cases c with
  |sl q=>
   refine⟨?_,tl⟩;simp only[VR];exact Cs hT (fun _ _=>rfl) (by omega)
  |int k=>exact⟨⟨rfl,by grind[Rd]⟩,tl⟩
  |bool=>exact⟨⟨rfl,by grind[Rd]⟩,tl⟩
  |str=>exact⟨⟨rfl,by grind[Rd]⟩,tl⟩
  |unit=>
   grind[Rd]
  |cons c' r' =>
   exfalso
   cases a with
   |v u z=>
    simp only[HS]at e1;obtain⟨e3,_⟩:=DX e1;subst e3;exact absurd hv.1.1 (by simp[Ty.scalar])
   |_=>simp[HS]at e1
 | .unit,_::_,_,_,_,e=>by simp[EI]at e
 | .unit,[],_::_,_,hv,_=>hv.elim
 | .cons _ _,[],_,_,_,e=>by simp[EI]at e
 | .cons _ _,_::_,[],_,hv,_=>hv.elim
 | .int _,_,_,_,_,e=>by simp[EI]at e
 | .bool,_,_,_,_,e=>by simp[EI]at e
 | .str,_,_,_,_,e=>by simp[EI]at e
 | .sl _,_,_,_,_,e=>by simp[EI]at e
end
end Go.Fw
end
section
namespace Go.Fw
def Ext(m m':Jt):Prop:=m'.length=m.length∧ ∀(i b:Nat),m[i]? =some (some b)→m'[i]? =some (some b)
theorem Ext.refl(m:Jt):Ext m m:=⟨rfl,fun _ _ h=>h⟩
theorem Ext.trans{m m' m'':Jt}(h:Ext m m')(k:Ext m' m''):Ext m m'':=⟨k.1.trans h.1,fun i b e=>k.2 i b (h.2 i b e)⟩
def bj(m:Jt):Prop:= ∀(i j b:Nat),m[i]? =some (some b)→m[j]? =some (some b)→i=j
theorem UR{m m':Jt}{i b:Nat}(e:m.put i b=some m'):Ext m m'∧m'[i]? =some (some b)∧(bj m→bj m'):=by
 unfold Jt.put at e;split at e
 ·rename_i h
  split at e
  ·cases e
  ·rename_i hc
   cases e;have RF:=(ADa.1 h).1;have ABp:∀(k:Nat),m[k]?≠some (some b):=fun k hk=>hc (by
    grind)
   refine⟨⟨by simp,fun k c hk=> ?_⟩,by simp[RF],fun hi j k c hj hk=> ?_⟩
   ·grind
   ·by_cases e1:j=i<;>by_cases e2:k=i
    ·omega
    ·grind
    ·grind
    ·rw[AFx (by omega)]at hj hk
     exact hi j k c hj hk
 all_goals grind[Ext.refl]
def Mu(m:Jt):List Nat→List Nat→Prop
 |[],[]=>True
 |i::is,b::bs=>m[i]? =some (some b)∧Mu m is bs
 |_,_=>False
theorem Mu.ext{m m':Jt}(h:Ext m m'):∀{is bs},Mu m is bs→Mu m' is bs
 |[],[],_=>trivial
 |_::_,_::_,k=>⟨h.2 _ _ k.1,Mu.ext h k.2⟩
theorem YI:∀{is bs:AAF} {m m':Jt},Vb m is bs=some m'→Ext m m'∧Mu m' is bs∧(bj m→bj m')
 |[],[],m,m',e=>by simp only[Vb,ADS]at e;subst e;exact⟨Ext.refl _,trivial,fun h=>h⟩
 |i::is,b::bs,m,m',e=>by
  simp only[Vb,ADc]at e;obtain⟨m1,e1,e2⟩:=e;obtain⟨a1,a2,a3⟩:=UR e1;obtain⟨b1,b2,b3⟩:=YI e2;exact⟨a1.trans b1,⟨b1.2 _ _ a2,b2⟩,fun h=>b3 (a3 h)⟩
 |[],_::_,_,_,e=>by simp[Vb]at e
 |_::_,[],_,_,e=>by simp[Vb]at e
def LZ(N:Nat)(m:Jt):AP→AV→Prop
 | .ref i,x=> ∃b,(x= .ref b []∨(x= .nil∧b=N+i))∧m[i]? =some (some b)
 | .ptr i j,x=> ∃b,x= .EN b j∧m[i]? =some (some b)
 | .fn f Fj,x=> ∃bs,x= .fn f bs∧Mu m Fj bs
 | .nil,x=>x= .nil
 | .UA i sz,x=> ∃b k j,x= .ref b [⟨k,sz,j⟩]∧m[i]? =some (some b)
 | .Xw i sz j,x=> ∃b k,x= .ref b [⟨k,sz,j⟩]∧m[i]? =some (some b)
 |_,_=>True
theorem LZ.ext{N:Nat}{m m':Jt}(h:Ext m m'){p:AP}{x:AV}(k:LZ N m p x):LZ N m' p x:=by
 cases p with
 |ref i=>obtain⟨b,hx,k⟩:=k;exact⟨b,hx,h.2 _ _ k⟩
 |ptr i j=>obtain⟨b,rfl,k⟩:=k;exact⟨b,rfl,h.2 _ _ k⟩
 |fn f Fj=>obtain⟨bs,rfl,k⟩:=k;exact⟨bs,rfl,k.ext h⟩
 |nil=>exact k
 |UA i sz=>obtain⟨b,q,j,rfl,k⟩:=k;exact⟨b,q,j,rfl,h.2 _ _ k⟩
 |Xw i sz j=>obtain⟨b,q,rfl,k⟩:=k;exact⟨b,q,rfl,h.2 _ _ k⟩
 |_=>trivial
theorem WN{N:Nat}{m m':Jt}{p:AP}{x:AV}(e:p.HP N m x=some m'):Ext m m'∧LZ N m' p x∧(bj m→bj m'):=by
 cases p with
 |ref i=>
  cases x with
  |ref b q=>
   cases q with
   |nil=>
    obtain⟨a,b,c⟩:=UR (by simpa only[AP.HP]using e);exact⟨a,⟨_,.inl rfl,b⟩,c⟩
   |cons _ _=>simp[AP.HP]at e
  |nil=>
   obtain⟨a,b,c⟩:=UR (by simpa only[AP.HP]using e);exact⟨a,⟨_,.inr ⟨rfl,rfl⟩,b⟩,c⟩
  |_=>simp[AP.HP]at e
 |ptr i j=>
  cases x with
  |EN b j' =>
   simp only[AP.HP]at e;split at e
   ·rename_i hj
    subst hj;obtain⟨a,b,c⟩:=UR e;exact⟨a,⟨_,rfl,b⟩,c⟩
   simp_all
  |_=>simp[AP.HP]at e
 |fn f Fj=>
  cases x with
  |fn g bs=>
   simp only[AP.HP]at e;split at e
   ·rename_i hf
    subst hf;obtain⟨a,b,c⟩:=YI e;exact⟨a,⟨_,rfl,b⟩,c⟩
   simp_all
  |_=>simp[AP.HP]at e
 |nil=>
  cases x with
  |nil=>simp only[AP.HP,ADS]at e;subst e;exact⟨Ext.refl _,rfl,fun h=>h⟩
  |_=>simp[AP.HP]at e
 |UA i sz=>
  cases x with
  |ref b q=>
   cases q with
   |nil=>simp[AP.HP]at e
   |cons s q=>
    cases q with
    |nil=>
     simp only[AP.HP]at e;split at e
     ·rename_i hs
      obtain⟨a,b,c⟩:=UR e;obtain⟨k,z,y⟩:=s;dsimp only at hs;subst hs;exact⟨a,⟨_,k,y,rfl,b⟩,c⟩
     simp_all
    |cons _ _=>simp[AP.HP]at e
  |_=>simp[AP.HP]at e
 |Xw i sz j=>
  cases x with
  |ref b q=>
   cases q with
   |nil=>simp[AP.HP]at e
   |cons s q=>
    cases q with
    |nil=>
     simp only[AP.HP]at e;split at e
     ·rename_i hs
      obtain⟨a,b,c⟩:=UR e;obtain⟨k,z,y⟩:=s;dsimp only at hs;obtain⟨rfl,rfl⟩:=hs;exact⟨a,⟨_,k,rfl,b⟩,c⟩
     simp_all
    |cons _ _=>simp[AP.HP]at e
  |_=>simp[AP.HP]at e
 |_=>
  have:m=m':=by grind[AP.HP]
  subst this;exact⟨Ext.refl _,trivial,fun h=>h⟩
theorem Qv{N:Nat}:∀{l:List AP} {xs:List AV} {m m':Jt},Ss.HP N m l xs=some m'→Ext m m'∧A5 (LZ N m') l xs∧(bj m→bj m')
 |[],[],m,m',e=>by simp only[Ss.HP,ADS]at e;subst e;exact⟨Ext.refl _,trivial,fun h=>h⟩
 |p::l,x::xs,m,m',e=>by
  simp only[Ss.HP,ADc]at e;obtain⟨m1,e1,e2⟩:=e;obtain⟨a1,a2,a3⟩:=WN e1;obtain⟨b1,b2,b3⟩:=Qv e2;exact⟨a1.trans b1,⟨a2.ext b1,b2⟩,fun h=>b3 (a3 h)⟩
 |[],_::_,_,_,e=>by simp[Ss.HP]at e
 |_::_,[],_,_,e=>by simp[Ss.HP]at e
def XT(N:Nat)(m:Jt):AP ⊕ List AP→AV ⊕ List AV→Prop
 | .inl p,.inl x=>LZ N m p x
 | .inr p,.inr x=>A5 (LZ N m) p x
 |_,_=>False
theorem XT.ext{N:Nat}{m m':Jt}(h:Ext m m'):∀{p:AP ⊕ List AP} {x:AV ⊕ List AV},XT N m p x→XT N m' p x
 | .inl _,.inl _,k=>LZ.ext h k
 | .inr _,.inr _,k=>A5.imp (fun _ _ k=>LZ.ext h k) k
theorem VB{N:Nat}:∀{l:List (AP ⊕ List AP)} {xs:List (AV ⊕ List AV)} {m m':Jt},TA.HP N m l xs=some m'→Ext m m'∧A5 (XT N m') l xs∧(bj m→bj m')
 |[],[],m,m',e=>by simp only[TA.HP,ADS]at e;subst e;exact⟨Ext.refl _,trivial,fun h=>h⟩
 | .inl p::l,.inl x::xs,m,m',e=>by
  simp only[TA.HP,ADc]at e;obtain⟨m1,e1,e2⟩:=e;obtain⟨a1,a2,a3⟩:=WN e1;obtain⟨b1,b2,b3⟩:=VB e2;exact⟨a1.trans b1,⟨LZ.ext b1 a2,b2⟩,fun h=>b3 (a3 h)⟩
 | .inr p::l,.inr x::xs,m,m',e=>by
  simp only[TA.HP,ADc]at e;obtain⟨m1,e1,e2⟩:=e;obtain⟨a1,a2,a3⟩:=Qv e1;obtain⟨b1,b2,b3⟩:=VB e2;exact⟨a1.trans b1,⟨A5.imp (fun _ _ k=>LZ.ext b1 k) a2,b2⟩,fun h=>b3 (a3 h)⟩
 |[],_::_,_,_,e=>by simp[TA.HP]at e
 | .inl _::_,[],_,_,e=>by simp[TA.HP]at e
 | .inr _::_,[],_,_,e=>by simp[TA.HP]at e
 | .inl _::_,.inr _::_,_,_,e=>by simp[TA.HP]at e
 | .inr _::_,.inl _::_,_,_,e=>by simp[TA.HP]at e
def VJ(N:Nat)(m:Jt):XP→XV→Prop
 | .c p,.c x=>LZ N m p x
 | .agg l,.agg xs=>A5 (LZ N m) l xs
 | .row _,.agg _=>True
 | .LI l,.LI xs=>A5 (XT N m) l xs
 |_,_=>False
theorem VJ.ext{N:Nat}{m m':Jt}(h:Ext m m'):∀{p:XP} {x:XV},VJ N m p x→VJ N m' p x
 | .c _,.c _,k=>LZ.ext h k
 | .agg _,.agg _,k=>A5.imp (fun _ _ k=>LZ.ext h k) k
 | .row _,.agg _,_=>trivial
 | .LI _,.LI _,k=>A5.imp (fun _ _ k=>XT.ext h k) k
theorem j_{N:Nat}{m m':Jt}:∀{p:XP} {x:XV},p.HP N m x=some m'→Ext m m'∧VJ N m' p x∧(bj m→bj m')
 | .c p,.c x,e=>WN (by grind[XP.HP])
 | .agg l,.agg xs,e=>Qv (by grind[XP.HP])
 | .row r,.agg xs,e=>by simp only[XP.HP,ADS]at e;subst e;exact⟨Ext.refl _,trivial,fun h=>h⟩
 | .LI l,.LI xs,e=>VB (by grind[XP.HP])
 | .c _,.agg _,e=>by simp[XP.HP]at e
 | .c _,.LI _,e=>by simp[XP.HP]at e
 | .agg _,.c _,e=>by simp[XP.HP]at e
 | .agg _,.LI _,e=>by simp[XP.HP]at e
 | .row _,.c _,e=>by simp[XP.HP]at e
 | .row _,.LI _,e=>by simp[XP.HP]at e
 | .LI _,.c _,e=>by simp[XP.HP]at e
 | .LI _,.agg _,e=>by simp[XP.HP]at e
theorem WD{N:Nat}{tm:List XV}:∀{l:List (Nat×XP)} {m m':Jt},DC.HP N tm m l=some m'→
  Ext m m'∧(∀q∈l,∃x,tm[q.1]? =some x∧VJ N m' q.2 x)∧(bj m→bj m')
 |[],m,m',e=>by grind[DC.HP,Option.some.injEq,Ext.refl]
 |(i,p)::l,m,m',e=>by
  simp only[DC.HP]at e;split at e
  ·rename_i x hx
   simp only[ADc]at e;obtain⟨m1,e1,e2⟩:=e;obtain⟨a1,a2,a3⟩:=j_ e1;obtain⟨b1,b2,b3⟩:=WD e2;refine⟨a1.trans b1,?_,fun h=>b3 (a3 h)⟩;intro q hq;rcases AGO.1 hq with rfl|hq
   all_goals grind[VJ.ext]
  simp_all
theorem Qn{N:Nat}{bx:List Bx}:∀{l:List BP} {i:Nat} {m m':Jt},EM.HP N bx i m l=some m'→
  Ext m m'∧(∀(k:Nat) q,l[k]? =some (.mem q)→ ∃b cs,m'[i+k]? =some (some b)∧bx[b]? =some (.mem cs)∧A5 (LZ N m') q cs)∧
   (∀(k:Nat) d r,l[k]? =some (.sl d r)→ ∃b,m'[i+k]? =some (some b))∧(bj m→bj m')
 |[],i,m,m',e=>by grind[EM.HP,Option.some.injEq,Ext.refl]
 | .mem q::l,i,m,m',e=>by
  simp only[EM.HP]at e;split at e
  ·rename_i b hb
   split at e
   ·rename_i cs wo
    simp only[ADc]at e;obtain⟨m1,e1,e2⟩:=e;obtain⟨a1,a2,a3⟩:=Qv e1;obtain⟨b1,b2,b4,b3⟩:=Qn e2;refine⟨a1.trans b1,?_,?_,fun h=>b3 (a3 h)⟩
    ·intro k q' hk
     cases k with
     |zero=>cases hk;exact⟨b,cs,b1.2 _ _ (a1.2 _ _ hb),wo,A5.imp (fun _ _ k=>LZ.ext b1 k) a2⟩
     |succ k=>
      grind
    grind
   simp_all
  simp_all
 | .sl d r::l,i,m,m',e=>by
  simp only[EM.HP]at e;split at e
  ·rename_i b hb
   obtain⟨b1,b2,b4,b3⟩:=Qn e;refine⟨b1,?_,?_,b3⟩
   ·grind
   ·intro k d r hk
    cases k with
    |zero=>exact⟨b,b1.2 _ _ hb⟩
    |succ k=>
     grind
  simp_all
 | .gone::l,i,m,m',e=>by
  simp only[EM.HP]at e;obtain⟨b1,b2,b4,b3⟩:=Qn e;grind
theorem Mx{bx bk:List Bx}{ren:Nat→Nat}:∀{l:List BP} {m:Jt} {x:EM.V l},EM.get bx bk m l=some x→(EM.mk ren l x).length=l.length∧
  ∀(k:Nat) p,l[k]? =some p→ ∃y:p.V,(EM.mk ren l x)[k]? =some (p.mk ren y)∧
   match p,y with
   | .mem q,y=> ∃b cs,m[k]? =some (some b)∧bx[b]? =some (.mem cs)∧Ss.get bk q cs=some y
   | .sl d r,y=> ∃b d',m[k]? =some (some b)∧bx[b]? =some (.sl d' r y)∧1≤d∧d≤d'
   | .gone,_=>True
 |[],m,x,e=>⟨rfl,by simp⟩
 | .mem q::l,some b::m,x,e=>by
  simp only[EM.get]at e;split at e
  ·rename_i cs wo
   simp only[ADc,ADV]at e;obtain⟨a,e1,c,e2,rfl⟩:=e;obtain⟨h1,h2⟩:=Mx (ren:=ren) e2;refine⟨by simp[EM.mk,h1],fun k p hk=> ?_⟩;cases k with
   |zero=>cases hk;exact⟨a,rfl,b,cs,rfl,wo,e1⟩
   |succ k=>
    grind[EM.mk]
  simp_all
 | .sl d r::l,some b::m,x,e=>by
  simp only[EM.get]at e;split at e
  ·rename_i d' q rows hb
   split at e
   ·rename_i hd
    simp only[ADc,ADV]at e;obtain⟨a,e1,c,e2,rfl⟩:=e;obtain⟨e3,e4⟩:=DX e1;subst e3;subst e4;obtain⟨h1,h2⟩:=Mx (ren:=ren) e2;refine⟨by simp[EM.mk,h1],fun k p hk=> ?_⟩;cases k with
    |zero=>cases hk;exact⟨rows,rfl,b,d',rfl,hb,hd.1,hd.2⟩
    |succ k=>
     grind[EM.mk]
   simp_all
  simp_all
 | .gone::l,o::m,x,e=>by
  have e':(EM.get bx bk m l).map (fun c=>((),c))=some x:=by grind[EM.get]
  simp only[ADV]at e';obtain⟨c,e2,rfl⟩:=e';obtain⟨h1,h2⟩:=Mx (ren:=ren) e2;refine⟨by simp[EM.mk,h1],fun k p hk=> ?_⟩;cases k with
  |zero=>cases hk;exact⟨(),rfl,trivial⟩
  |succ k=>
   grind[EM.mk]
 | .mem q::l,none::m,x,e=>by simp[EM.get]at e
 | .sl d r::l,none::m,x,e=>by simp[EM.get]at e
 | .mem _::_,[],x,e=>by simp[EM.get]at e
 | .sl _ _::_,[],x,e=>by simp[EM.get]at e
 | .gone::_,[],x,e=>by simp[EM.get]at e
theorem Fl:∀{m:Jt} {bx:List Bx},(BL bx m).length=bx.length
 |[],_=>rfl
 |some b::m,bx=>by simp[BL,Fl]
 |none::m,bx=>by simp[BL,Fl]
theorem Mn:∀{m:Jt} {bx vw:List Bx},Cf bx vw→Cf (BL bx m) vw
 |[],_,_,h=>h
 |none::m,bx,vw,h=>by simp only[BL];exact Mn h
 |some b::m,bx,vw,h=>by
  simp only[BL];refine Mn fun k B hk=> ?_
  by_cases e:k=b
  ·grind
  ·rw[AFx (by omega)]at hk
   exact h k B hk
theorem Qu:∀{m:Jt} {bx:List Bx} {b:Nat} {B:Bx},some b∈m→(BL bx m)[b]? =some B→B= .dead
 |some c::m,bx,b,B,h,e=>by
  simp only[BL]at e;by_cases hm:some b∈m
  ·exact Qu hm e
  ·have:c=b:=by
    simp_all
   subst this;have:∀{m:Jt} {bx:List Bx},bx[c]? =some .dead→some c∉m→(BL bx m)[c]? =some .dead:=by
    intro m
    induction m with
    |nil=>intro bx h _;exact h
    |cons o m ih=>
     intro bx h hn;cases o with
     |none=>grind[BL,List.mem_cons_of_mem]
     |some d=>
      grind[BL,List.mem_cons_of_mem,List.getElem?_set_ne]
   grind[List.getElem?_eq_some_iff,Fl]
 |none::m,bx,b,B,h,e=>by
  simp only[BL]at e;exact Qu (by simp_all) e
theorem bR{E:Env}{w:World}{vw:List Bx}:∀{m:Jt} {bx:List Bx} {G:AAF},bj m→BR E w vw bx G→
  ∃Gs:List AAF,Gs.length=m.length∧(∀(k b:Nat) B F,m[k]? =some (some b)→bx[b]? =some B→Gs[k]? =some F→dN E w vw b B F)∧
   BR E w vw (BL bx m) (Gs.flatten++G)
 |[],bx,G,_,h=>⟨[],rfl,by simp,h⟩
 |none::m,bx,G,hi,h=>by
  obtain⟨Gs,h1,h2,h3⟩:=bR (m:=m) (fun i j b LH hj=>by
   have:=hi (i+1) (j+1) b (by simp_all) (by simp_all);omega) h
  refine⟨[]::Gs,by simp[h1],fun k b B F hk hB hF=> ?_,by grind[BL]⟩;grind
 |some b::m,bx,G,hi,h=>by
  have tz:bj m:=fun i j b LH hj=>by
   have:=hi (i+1) (j+1) b (by simp_all) (by simp_all);omega
  cases e:bx[b]? with
  |none=>
   have Ul:bx.set b .dead=bx:=List.set_eq_of_length_le (by simp_all);obtain⟨Gs,h1,h2,h3⟩:=bR (m:=m) tz h;refine⟨[]::Gs,by simp[h1],fun k b' B F hk hB hF=> ?_,by grind[BL]⟩;grind
  |some B0=>
   obtain⟨F0,k1,k2⟩:=h.take e;obtain⟨Gs,h1,h2,h3⟩:=bR (m:=m) tz k2;refine⟨F0::Gs,by simp[h1],fun k b' B F hk hB hF=> ?_,?_⟩
   ·cases k with
    |zero=>
     simp_all
    |succ k=>
     have aB:b'≠b:=fun hh=>by
      have:=hi 0 (k+1) b (by simp) (by simp_all);omega
     grind
   ·simp only[BL]
    refine h3.perm ?_
    grind
end Go.Fw
end
section
namespace Go.Fw
theorem bz{R:Nat→List Nat→List Nat→List Nat→Prop}:∀(Gs:List AAF) (o:Nat),(∀(k:Nat) G,Gs[k]? =some G→ ∃F W,G.Perm (F++W)∧R (o+k) G F W)→
  ∃Fs Ws:List AAF,Fs.length=Gs.length∧Ws.length=Gs.length∧Gs.flatten.Perm (Fs.flatten++Ws.flatten)∧
   ∀(k:Nat) G F W,Gs[k]? =some G→Fs[k]? =some F→Ws[k]? =some W→R (o+k) G F W
 |[],o,_=>⟨[],[],rfl,rfl,by simp,by simp⟩
 |G::Gs,o,h=>by
  obtain⟨F,W,hp,hr⟩:=h 0 G rfl;obtain⟨Fs,Ws,h1,h2,h3,h4⟩:=bz Gs (o+1) (fun k G hk=>by
   have:=h (k+1) G (by simp_all)
   rwa [show o+1+k=o+(k+1)by omega])
  refine⟨F::Fs,W::Ws,by simp[h1],by simp[h2],?_,fun k G' F' W' hG hF hW=> ?_⟩
  all_goals grind
def G2(E:Env)(w:World)(vw:List Bx)(ren:Nat→Nat):(l:List (Nat×XP))→DC.V l→List Value→Prop
 |[],_,_=>True
 |(i,p)::l,x,vals=>(∃v,vals[i]? =some v∧XR E w vw (p.mk ren x.1) v)∧G2 E w vw ren l x.2 vals
section
variable{E E1:Env} {w:World} {bx bk kF:List Bx} {Fk:List AAF} {m:Jt}
theorem Mu.map{f:Nat→Nat}(h:∀(i b:Nat),m[i]? =some (some b)→E1.Du i=E.Du b):∀{is bs:AAF},Mu m is bs→
  (is.map fun b=>Value.pointer (some ⟨E1.Du b,0,none⟩))=bs.map fun b=>Value.pointer (some ⟨E.Du b,0,none⟩)
 |[],[],_=>rfl
 |i::is,b::bs,k=>by simp[h i b k.1,Mu.map (f:=f) h k.2]
theorem Mu.lt:∀{is bs:AAF},Mu m is bs→ ∀i∈is,i<m.length
 |[],[],_,_,h=>by simp at h
 |i::is,b::bs,k,j,h=>by
  rcases AGO.1 h with rfl|h
  ·exact(ADa.1 k.1).1
  ·exact Mu.lt k.2 j h
structure pB (N:Nat) (E:Env) (w:World) (bx bk:List Bx) (Fk:List AAF) (m:Jt) (E1:Env) (kF:List Bx):Prop where
 within:Cf bk bx
 boxes:Hy E w bx bk Fk
 st:∀c,E.S c→E.T c
 T:∀c,cH E Fk c→E1.T c
 S:∀c,E.S c→E1.S c
 ids:∀(i b:Nat),m[i]? =some (some b)→E1.Du i=E.Du b∧E1.EK i=E.EK b
 len:m.length≤kF.length
 nil:∀(i:Nat) d r rows,kF[i]? =some (.sl d r rows)→E.EK (N+i)= .slice none 0 0
 sl:∀(i:Nat) d r rows,i<m.length→kF[i]? =some (.sl d r rows)→ ∃b d',m[i]? =some (some b)∧bx[b]? =some (.sl d' r rows)
variable{N:Nat} (k:pB N E w bx bk Fk m E1 kF)
include k
theorem lx{p:AP}{x:AV}{v:Value}(hv:VR E w bx x v)(ha:LZ N m p x){y:p.V}(e:p.get bk x=some y):VR E1 w kF (p.mk id y) v:=by
 cases p with
 |v t=>
  simp only[AP.get]at e;split at e
  ·rename_i hs
   have hr:=O6 k.within k.boxes k.st hv e;refine⟨hs,?_⟩;cases t with
   |int _=>grind[Rd]
   |bool=>grind[Rd]
   |str=>grind[Rd]
   |_=>simp[Ty.scalar]at hs
  simp_all
 |sl s r=>
  cases s with
  |false=>
   simp only[AP.get]at e;have hr:=O6 k.within k.boxes k.st hv e;simp only[AP.mk,VR];exact Cs k.T (fun _ _=>rfl) (by omega)
  |true=>
   simp only[AP.get]at e;split at e
   ·rename_i q z
    obtain⟨e1,e2⟩:=DX e;subst e1;subst e2;simp only[AP.mk,VR]at hv⊢;exact Cs k.S (fun _ _=>rfl) (by simp_all)
   ·cases e
    simp only[AP.mk,VR]at hv⊢;subst hv;simp only[Rd];simp_all
   simp_all
 |nil=>
  obtain rfl:=ha;exact hv
 |ref i=>
  obtain⟨b,hx,hm⟩:=ha;have hi:=(ADa.1 hm).1;simp only[AP.mk,id,VR];rcases hx with rfl|⟨rfl,rfl⟩
  ·have vo:=hv.1
   refine⟨vo,?_⟩;cases e1:kF[i]? with
   |none=>simp at e1;have:=k.len;omega
   |some B=>
    cases B with
    |sl d r rows=>
     obtain⟨b',d',h1,h2⟩:=k.sl i d r rows hi e1;rw[hm]at h1;cases h1;simp only[VR,h2]at hv
     replace hv:=hv.2
     refine⟨by simp[BU],⟨_,rfl⟩,?_⟩;rw[(k.ids i b hm).2];simp_all
    |_=>trivial
  ·have Vs:v= .slice none 0 0:=hv
   subst Vs;refine⟨rfl,?_⟩;cases e1:kF[i]? with
   |none=>simp at e1;have:=k.len;omega
   |some B=>
    cases B with
    |sl d r rows=>
     refine⟨by simp[BU],⟨_,rfl⟩,?_⟩;rw[(k.ids i _ hm).2,k.nil i d r rows e1,Bc]
    |_=>trivial
 |ptr i j=>
  obtain⟨b,rfl,hm⟩:=ha;have hi:=(ADa.1 hm).1;exact⟨AF3 hi k.len,by rw[hv.2,id,(k.ids i b hm).1]⟩
 |dz r=>
  simp only[AP.get]at e;split at e
  ·rename_i s q z
   obtain⟨e1,e2⟩:=DX e;subst e1;subst e2;simp only[AP.mk,VR]at hv⊢;obtain⟨bb,o,cs,h1,h2,h3,h4,h5⟩:=hv;have nm:∀c,(if s=true then E.S else E.T) c→E1.T c:=by
    intro c hc;cases s
    ·exact k.T c (.inl (by simp_all))
    ·exact k.T c (.inl (k.st c (by simp_all)))
   exact⟨bb,o,cs,h1,by simp_all,h3,h4,by simpa using Cs nm (fun _ _=>rfl) h5⟩
  ·rename_i b
   split at e
   ·rename_i cs hb
    obtain⟨F,⟨hF,arr,ty,fr,ha,hu,RQ⟩,XD⟩:=k.boxes.get hb;have Uu:=Xp k.within k.boxes k.st RQ e;simp only[AP.mk,VR];refine⟨E.Du b,0,arr.toList,by simpa using hv.2,?_,ZP Uu,?_,by simpa using Cs k.T (fun _ _=>rfl) Uu⟩
    ·simp only[AFZ,AFg]
     exact k.T _ (.inr (XD _ (by simp_all)))
    ·intro j u hj
     simp only[AGm,World.cell?,ha,AGS,AFZ,AFg];simp_all
   simp_all
  ·rename_i b p i sz
   split at e
   ·rename_i d q rows hb
    simp only[ADc]at e;obtain⟨⟨q',ys⟩,e1,e2⟩:=e;split at e2
    case isFalse=>cases e2
    rename_i LW;obtain⟨e3,e4⟩:=DX e2;dsimp only at e3;subst e3;subst e4;simp only[VR,Ti k.within hb]at hv;obtain⟨_,hp,q1,ys1,bb,o,len,cap,hg,hi,hh,rfl⟩:=hv;rw[hg]at e1;simp only[ADS,AEY]at e1;obtain⟨e5,e6⟩:=e1;subst e5;obtain rfl:=AFq e6;have Uu:=V7 k.within k.boxes k.st hb hp hg hh;simp only[Rd]at Uu;obtain⟨a',cap',ee,_,Uu⟩:=Uu;simp only[AFW,Value.slice.injEq,AGN]at ee;obtain⟨rfl,rfl,rfl⟩:=ee;rcases Uu with Uu|⟨b1,o1,e7,hb1,Uu⟩
    ·omega
    ·cases e7
     obtain⟨cs,c1,c2,c3⟩:=Uu i _ (LJ hi);simp only[AP.mk,VR];refine⟨bb,o+i*q1.n,cs,by rw[LW],by simpa using k.T _ hb1,c1,c2,by simpa using Cs k.T (fun _ _=>rfl) c3⟩
   simp_all
  simp_all
 |fn f Fj=>
  obtain⟨bs,rfl,hc⟩:=ha;refine⟨fun i hi=>AF3 (hc.lt i (by simp_all)) k.len,?_⟩;rw[hv.2];simp only[AP.mk,List.map_id];rw[Mu.map (f:=id) (fun i b h=>(k.ids i b h).1) hc]
 |gU f rs=>
  simp only[AP.get]at e;split at e
  ·rename_i g rows
   split at e
   case isFalse=>cases e
   rename_i hfg;subst hfg;obtain⟨ps,Vo,Vl⟩:=hv;refine⟨ps,Vo,?_⟩;clear ha Vo
   induction rs generalizing rows ps with
   |nil=>
    cases rows with
    |nil=>
     cases ps with
     |nil=>trivial
     |cons _ _=>exact Vl.elim
    |cons _ _=>simp[T5.cX]at e
   |cons r rs ih=>
    cases rows with
    |nil=>simp[T5.cX]at e
    |cons q rows=>
     cases ps with
     |nil=>exact Vl.elim
     |cons p ps=>
      simp only[T5.cX,ADc,ADV]at e;obtain⟨x1,e1,x2,e2,rfl⟩:=e;obtain⟨q1,q2⟩:=q;obtain⟨e3,e4⟩:=DX e1;dsimp only at e3;subst e3;subst e4;obtain⟨⟨bb,o,cs,h1,h2,h3,h4,h5⟩,Vl⟩:=Vl;exact⟨⟨bb,o,cs,h1,k.T bb (.inl h2),h3,h4,Cs (fun b hb=>k.T b (.inl hb)) (fun _ _=>rfl) h5⟩,ih rows e2 ps Vl⟩
  ·rename_i g bs
   split at e
   case isFalse=>cases e
   rename_i hfg;subst hfg;obtain⟨Vo,Vl⟩:=hv;refine⟨bs.map fun b=>Value.pointer (some ⟨E.Du b,0,none⟩),Vl,?_⟩;clear ha Vo Vl
   induction rs generalizing bs with
   |nil=>
    cases bs with
    |nil=>trivial
    |cons _ _=>simp[T5.cP]at e
   |cons r rs ih=>
    cases bs with
    |nil=>simp[T5.cP]at e
    |cons b bs=>
     simp only[T5.cP,ADc,ADV]at e;obtain⟨x1,e1,x2,e2,rfl⟩:=e;split at e1
     case h_2=>cases e1
     rename_i cs hb;obtain⟨F,⟨hF,arr,ty,fr,ha,hu,RQ⟩,XD⟩:=k.boxes.get hb;have Uu:=Xp k.within k.boxes k.st RQ e1;refine⟨⟨E.Du b,0,arr.toList,rfl,k.T _ (.inr (XD _ (by simp_all))),ZP Uu,?_,Cs k.T (fun _ _=>rfl) Uu⟩,ih bs e2⟩;intro j u hj;simp only[AGm,World.cell?,ha,AGS,AFZ,AFg];simp_all
  simp_all
 |any=>trivial
 |UA i sz=>
  obtain⟨b,q,j,rfl,hm⟩:=ha;have hi:=(ADa.1 hm).1;simp only[AP.get,ADS]at e;subst e;simp only[AP.mk,id,VR];have vo:=hv.1;refine⟨vo,?_⟩;cases e1:kF[i]? with
  |none=>simp at e1;have:=k.len;omega
  |some B=>
   cases B with
   |sl d r rows=>
    obtain⟨b',d',h1,h2⟩:=k.sl i d r rows hi e1;rw[hm]at h1;cases h1;simp only[VR,h2]at hv
    replace hv:=hv.2
    refine⟨hv.1,hv.2.1,?_⟩;rw[(k.ids i b hm).2];simp_all
   |_=>trivial
 |Xw i sz j=>
  obtain⟨b,q,rfl,hm⟩:=ha;have hi:=(ADa.1 hm).1;simp only[AP.get,ADS]at e;subst e;simp only[AP.mk,id,VR];have vo:=hv.1;refine⟨vo,?_⟩;cases e1:kF[i]? with
  |none=>simp at e1;have:=k.len;omega
  |some B=>
   cases B with
   |sl d r rows=>
    obtain⟨b',d',h1,h2⟩:=k.sl i d r rows hi e1;rw[hm]at h1;cases h1;simp only[VR,h2]at hv
    replace hv:=hv.2
    refine⟨hv.1,hv.2.1,?_⟩;rw[(k.ids i b hm).2];simp_all
   |_=>trivial
theorem bc:∀{l:List AP} {xs:List AV} {vs:List Value},X7 E w bx xs vs→A5 (LZ N m) l xs→ ∀{y:Ss.V l},Ss.get bk l xs=some y→X7 E1 w kF (Ss.mk id l y) vs
 |[],[],[],_,_,_,_=>trivial
 |p::l,x::xs,v::vs,hv,ha,y,e=>by
  simp only[Ss.get,ADc,ADV]at e;obtain⟨a,e1,b,e2,rfl⟩:=e;exact⟨lx k hv.1 ha.1 e1,bc hv.2 ha.2 e2⟩
 |[],[],_::_,hv,_,_,_=>hv.elim
 |_::_,_::_,[],hv,_,_,_=>hv.elim
 |[],_::_,_,_,ha,_,_=>ha.elim
 |_::_,[],_,_,ha,_,_=>ha.elim
theorem il:∀{l:List (AP ⊕ List AP)} {xs:List (AV ⊕ List AV)} {vs:List Value},A5 (TR E w bx) xs vs→A5 (XT N m) l xs→ ∀{y:TA.V l},TA.get bk l xs=some y→
  A5 (TR E1 w kF) (TA.mk id l y) vs
 |[],[],[],_,_,_,_=>trivial
 | .inl p::l,.inl x::xs,v::vs,hv,ha,y,e=>by
  simp only[TA.get,ADc,ADV]at e;obtain⟨a,e1,b,e2,rfl⟩:=e;exact⟨lx k hv.1 ha.1 e1,il hv.2 ha.2 e2⟩
 | .inr p::l,.inr x::xs,v::vs,hv,ha,y,e=>by
  simp only[TA.get,ADc,ADV]at e;obtain⟨a,e1,b,e2,rfl⟩:=e;obtain⟨⟨us,hu,hus⟩,h2⟩:=hv;exact⟨⟨us,hu,bc k hus ha.1 e1⟩,il h2 ha.2 e2⟩
 | .inl _::_,.inr _::_,_,_,ha,_,_=>ha.1.elim
 | .inr _::_,.inl _::_,_,_,ha,_,_=>ha.1.elim
 |[],[],_::_,hv,_,_,_=>hv.elim
 |_::_,_::_,[],hv,_,_,_=>hv.elim
 |[],_::_,_,_,ha,_,_=>ha.elim
 |_::_,[],_,_,ha,_,_=>ha.elim
theorem xD{p:XP}{x:XV}{v:Value}(hv:XR E w bx x v)(ha:VJ N m p x){y:p.V}(e:p.get bk x=some y):XR E1 w kF (p.mk id y) v:=by
 cases p with
 |c p=>cases x with
  |c x=>exact lx k hv ha (by grind[XP.get])
  |_=>exact ha.elim
 |agg l=>cases x with
  |agg xs=>
   obtain⟨vs,rfl,RQ⟩:=hv;exact⟨vs,rfl,bc k RQ ha (by grind[XP.get])⟩
  |_=>exact ha.elim
 |row r=>cases x with
  |agg xs=>
   obtain⟨vs,rfl,RQ⟩:=hv;exact⟨vs,rfl,Yt k.within k.boxes k.st k.T RQ (by grind[XP.get])⟩
  |_=>exact ha.elim
 |LI l=>cases x with
  |LI xs=>
   obtain⟨vs,rfl,RQ⟩:=hv;exact⟨vs,rfl,il k RQ ha (by grind[XP.get])⟩
  |_=>exact ha.elim
theorem fh{tm:List XV}{vals:List Value}(xA:A5 (XR E w bx) tm vals):∀{l:List (Nat×XP)},(∀q∈l,∃x,tm[q.1]? =some x∧VJ N m q.2 x)→ ∀{y:DC.V l},DC.get bk tm l=some y→
  G2 E1 w kF id l y vals
 |[],_,_,_=>trivial
 |(i,p)::l,ha,y,e=>by
  obtain⟨x,hx,hax⟩:=ha (i,p) (by simp);simp only[DC.get,hx,ADc,ADV]at e;obtain⟨a,e1,b,e2,rfl⟩:=e;obtain⟨v,hv,hr⟩:=xA.get hx;exact⟨⟨v,hv,xD k hr hax e1⟩,fh xA (fun q hq=>ha q (by simp[hq])) e2⟩
end
structure gf (E:Env) (w:World) (bx:List Bx) (m:Jt) (s:Bl) (x:s.V) (vals:List Value) (E1:Env):Prop where
 boxes:BR E1 w (EM.mk id s.C6 x.2) (EM.mk id s.C6 x.2) []
 Bh:G2 E1 w (EM.mk id s.C6 x.2) id s.Bh x.1 vals
 ids:∀(i b:Nat),m[i]? =some (some b)→E1.Du i=E.Du b∧E1.EK i=E.EK b
 inj:bj m
 len:m.length=s.C6.length
 S:∀c,E.S c→E1.S c
 kJ:∀c,E1.S c→E.S c∨ ¬E.T c
 T:∀c,E.T c→E1.T c
 rest:∃Fk,Hy E w bx (BL bx m) Fk∧Fk.flatten.Nodup∧(∀c∈Fk.flatten,¬E.T c∧ ¬E1.S c∧c<w.heap.size∧E1.T c)∧(∀c,E1.T c→E.T c∨E1.S c∨c∈Fk.flatten)
theorem ZY{E:Env}{w:World}{bx:List Bx}{tm:List XV}{vals:List Value}(hB:BR E w bx bx [])(xA:A5 (XR E w bx) tm vals){s:Bl}{m0 m:Jt}{x:s.V}
  {N:Nat} (nr:∀(i:Nat) d r,s.C6[i]? =some (.sl d r)→E.EK (N+i)= .slice none 0 0) (hlen:m0.length=s.C6.length) (tz:bj m0) (e:s.fit N m0 tm bx=some (x,m)):Ext m0 m∧ ∃E1,gf E w bx m s x vals E1:=by
 simp only[Bl.fit,ADc,ADV]at e;obtain⟨m1,e1,m2,e2,a,e3,c,e4,e5⟩:=e;cases e5;obtain⟨a1,a2,a3⟩:=WD e1;obtain⟨b1,b2,b4,b3⟩:=Qn e2;have hi:bj m:=b3 (a3 tz);have hml:m.length=s.C6.length:=by rw[b1.1,a1.1,hlen]
 refine⟨a1.trans b1,?_⟩;obtain⟨Gs,g1,g2,g3⟩:=bR hi hB;obtain⟨q1,q2⟩:=Mx (ren:=id) e4;have st:=hB.st
 let R:Nat→List Nat→List Nat→List Nat→Prop:=fun k G F W=>
  match s.C6[k]? with
  |some (.sl d r)=> ∀(b d':Nat) (rows:List r.D),m[k]? =some (some b)→bx[b]? =some (.sl d' r rows)→Ow w (fun c=>E.S c∨c∈W) d (.sl r) [E.EK b] rows F
  |some (.mem q)=>F=G∧W=[]
  |_=>F=[]∧W=G
 have zm:∀(k:Nat) G,Gs[k]? =some G→ ∃F W,G.Perm (F++W)∧R (0+k) G F W:=by
  intro k G hG;rw[AGm];have hk:k<s.C6.length:=by
   grind
  have hp:s.C6[k]? =some s.C6[k]:=ADU hk;cases hb:s.C6[k]with
  |mem q=>exact⟨G,[],by simp,by grind⟩
  |gone=>exact⟨[],G,by simp,by grind⟩
  |sl d r=>
   obtain⟨y,y1,b,d',y2,y3,y4,y5⟩:=q2 k _ (hp.trans (by rw[hb]));obtain⟨_,ho⟩:=g2 k b _ G y2 y3 hG;grind[FJ]
 obtain⟨Fs,Ws,f1,f2,f3,f4⟩:=bz Gs 0 zm;obtain⟨Fk,k1,k2⟩:=g3;simp only[AFp]at k2;have o5:Sep E w (Fk.flatten++(Fs.flatten++Ws.flatten)):=k2.perm (AGt _ f3)
 let E1:Env:={
   Du:=fun i=>match m[i]? with|some (some b)=>E.Du b|_=>0
   EK:=fun i=>match m[i]? with|some (some b)=>E.EK b|_=> .nilFunc
   S:=fun c=>E.S c∨c∈Ws.flatten
   T:=fun c=>E.T c∨c∈Ws.flatten∨c∈Fk.flatten }
 have lG:∀(i b:Nat),m[i]? =some (some b)→E1.Du i=E.Du b∧E1.EK i=E.EK b:=fun i b h=>by grind
 have fe:pB N E w bx (BL bx m) Fk m E1 (EM.mk id s.C6 c):={
  within:=Mn (Cf.refl bx)
  boxes:=k1
  st:=st
  T:=fun d hd=>hd.elim .inl fun h=> .inr (.inr h)
  S:=fun d hd=> .inl hd
  ids:=lG
  len:=by omega
  nil:=fun i d r rows e=>by
   have hk:i<s.C6.length:=by
    grind
   obtain⟨y,y1,_⟩:=q2 i _ (ADU hk);have hp:=ADU hk;rw[e]at y1
   generalize s.C6[i]=P at y y1 hp
   cases P with
   |mem q=>cases y1
   |gone=>cases y1
   |sl d0 r0=>grind
  sl:=fun i d r rows hi e=>by
   have hk:i<s.C6.length:=by omega
   obtain⟨y,y1,y2⟩:=q2 i _ (ADU hk);rw[e]at y1
   generalize s.C6[i]=P at y y1 y2
   cases P with
   |mem q=>cases y1
   |gone=>cases y1
   |sl d0 r0=>
    simp only[BP.mk,ADS,Bx.sl.injEq]at y1;grind }
 have nd:=o5.nodup;have oU:∀c∈Fs.flatten,¬E1.T c:=by
  intro d hd h;rcases h with h|h|h
  ·exact o5.free d (by simp[hd]) h
  all_goals grind
 have zq:G2 E1 w (EM.mk id s.C6 c) id s.Bh a vals:=fh fe xA (fun q hq=>let⟨x,h1,h2⟩:=a2 q hq;⟨x,h1,VJ.ext b1 h2⟩) e3;refine⟨E1,gf.mk ?_ zq lG hi hml (fun d hd=> .inl hd) ?_ (fun d hd=> .inl hd) ⟨Fk,k1,(AEO.1 nd).1,fun d hd=>⟨o5.free d (by simp[hd]),?_,o5.lt d (by simp[hd]),.inr (.inr hd)⟩,?_⟩⟩
 ·refine⟨Fs,⟨by simp_all,fun k B F hk hF=> ?_⟩,?_⟩
  ·have hkl:k<s.C6.length:=by
    grind
   have hp:s.C6[k]? =some s.C6[k]:=ADU hkl;obtain⟨y,y1,y2⟩:=q2 k _ hp;rw[hk]at y1;cases y1;have hG:Gs[k]? =some (Gs[k]'(by omega)):=ADU _;have hW:Ws[k]? =some (Ws[k]'(by omega)):=ADU _;have hr:=f4 k _ F _ hG hF hW;rw[AGm]at hr;have ACD:∀d∈Ws[k]'(by omega),d∈Ws.flatten:=fun d hd=>AFz.2 ⟨_,AFB hW,hd⟩
   generalize AIS:s.C6[k]=P at y y2 hp
   have AAa:=fun q=>b2 k q
   simp only[R,hp]at hr;cases P with
   |mem q=>
    obtain⟨b,cs,z1,z2,z3⟩:=y2;obtain⟨rfl,hW0⟩:=hr;obtain⟨hFe,arr,ty,fr,h1,h2,h3⟩:=g2 k b _ _ z1 z2 hG;obtain⟨b',Wd,t1,t2,t3⟩:=AAa q hp;rw[AGm,z1]at t1;cases t1;rw[z2]at t2;cases t2;refine⟨by simp_all,arr,ty,fr,by simp_all,h2,bc fe h3 t3 z3⟩
   |sl d r=>
    obtain⟨b,d',z1,z2,z3,z4⟩:=y2;have:=hr b d' y z1 z2;refine⟨z3,?_⟩;rw[(lG k b z1).2];exact CH (fun d hd=>hd.elim .inl fun h=> .inr (ACD d h)) (fun _ _=>rfl) (fun _ _=>rfl) this
   |gone=>exact hr.1
  ·simp only[AFp]
   refine⟨(AEO.1 (AEO.1 nd).2.1).1,oU,fun d hd=>o5.lt d (by simp[hd]),fun d hd=>hd.elim (fun h=> .inl (st d h)) (fun h=> .inr (.inl h)),fun d hd=> ?_⟩;rcases hd with hd|hd|hd
   ·exact o5.W3 d hd
   ·exact o5.lt d (by simp[hd])
   ·exact o5.lt d (by simp[hd])
 ·intro d hd
  exact hd.elim .inl fun h=> .inr (o5.free d (by simp[h]))
 ·intro h
  rcases h with h|h
  ·exact o5.free d (by simp[hd]) (st d h)
  grind
 grind
end Go.Fw
end
section
namespace Go.Fw
def zv:Ty→Value
 | .int k=> .int k 0
 | .bool=> .bool false
 | .str=> .string ⟨#[]⟩
 |_=> .slice none 0 0
def C4:Ty→List Value
 | .cons c r=>zv c::C4 r
 | .unit=>[]
 |t=>[zv t]
def Ty.cell:Ty→Bool
 | .unit| .cons _ _=>false
 |_=>true
def Ty.iZ:Ty→Bool
 | .cons c r=>c.cell&&r.iZ
 |_=>true
def eqZ:Value→Value→Bool
 | .int k n,.int k' n' =>decide (k=k')&&decide (n=n')
 | .bool a,.bool b=>decide (a=b)
 | .string a,.string b=>decide (a.data.toList=[])&&decide (b.data.toList=[])
 | .slice none a b,.slice none c d=>decide (a=c)&&decide (b=d)
 |_,_=>false
theorem zj{a b:Value}(h:eqZ a b=true):a=b:=by
 unfold eqZ at h;split at h
 ·simp_all
 ·simp_all
 ·rename_i a b
  simp at h;obtain⟨h1,h2⟩:=h;cases a;cases b;simp_all
 all_goals simp_all
def nf:List Value→List Value→Bool
 |[],[]=>true
 |a::l,b::m=>eqZ a b&&nf l m
 |_,_=>false
theorem mO:∀{l m:List Value},nf l m=true→l=m
 |[],[],_=>rfl
 |a::l,b::m,h=>by
  simp only[nf,AEE]at h;rw[zj h.1,mO h.2]
 |[],_::_,h=>by simp[nf]at h
 |_::_,[],h=>by simp[nf]at h
def XO(P:Program)(t:Nat):TD→Prop
 | .int k=>P.underlying t=some (.int k)
 | .bool=>P.underlying t=some .bool
 | .str=>P.underlying t=some .string
 | .sl e=>P.underlying t=some (.slice e)
 | .ptr e=>P.underlying t=some (.pointer e)
 | .st fs=> ∃fields,P.underlying t=some (.struct fields)∧fields.toList.map (fun f=>(f.offset,f.type))=fs∧(∀f∈fields.toList,f.name≠ "_" ∧ ∃i,P.info? f.type=some i∧i.size≠0)∧
  P.stoodInHeld t=false∧P.eqGuardType P.depth t=false
 | .other=> ∃d,P.underlying t=some d∧d.isRow=false
structure AA_ (P:Program) (T:FI) (t:Nat) (ti:TI):Prop where
 info:∃i,P.info? t=some i∧i.size=ti.size∧i.bytes=ti.bytes∧(∀r,ti.row=some r→r.iZ=true∧ ∃z,i.zero=some z∧z.cells.toList=C4 r)
 oN:XO P t ti.desc
def Cq(P:Program)(T:FI):Prop:= ∀t ti,T.get t=some ti→AA_ P T t ti
def iU(P:Program)(T:FI)(t:Nat)(ti:TI):Bool:=
 (match P.info? t with
  |some i=>decide (i.size=ti.size)&&decide (i.bytes=ti.bytes)&&(match ti.row with
   |some r=>r.iZ&&(match i.zero with
    |some z=>nf z.cells.toList (C4 r)
    |none=>false)
   |none=>true)
  |none=>false)&&
 (match ti.desc,P.underlying t with
  | .int k,some (.int k')=>decide (k=k')
  | .bool,some .bool=>true
  | .str,some .string=>true
  | .sl e,some (.slice e')=>decide (e=e')
  | .ptr e,some (.pointer e')=>decide (e=e')
  | .st fs,some (.struct fields)=>decide (fields.toList.map (fun f=>(f.offset,f.type))=fs)&&
    fields.toList.all (fun f=>decide (f.name≠ "_")&&(match P.info? f.type with|some i=>decide (i.size≠0)|none=>false))&&
    !P.stoodInHeld t&& !P.eqGuardType P.depth t
  | .other,some d=> !d.isRow
  |_,_=>false)
theorem iG{P:Program}{T:FI}{t:Nat}{ti:TI}(h:iU P T t ti=true):AA_ P T t ti:=by
 unfold iU at h;rw[AEE]at h;obtain⟨h1,h2⟩:=h;constructor
 ·split at h1
  ·rename_i i hi
   simp only[AEE,AEe]at h1;refine⟨i,hi,h1.1.1,h1.1.2,fun r hr=> ?_⟩;obtain⟨_,h3⟩:=h1;rw[hr]at h3;dsimp only at h3;rw[AEE]at h3;grind[mO]
  simp_all
 ·split at h2
  ·grind[XO]
  ·grind[XO]
  ·grind[XO]
  ·grind[XO]
  ·grind[XO]
  ·rename_i fs fields hd hu
   simp only[hd,XO];grind
  all_goals grind[XO]
def oI(P:Program)(T:FI):Bool:=T.all fun q=>iU P T q.1 q.2
theorem FI.get_mem:∀{T:FI} {t:Nat} {ti:TI},T.get t=some ti→(t,ti)∈T
 |(u,i)::l,t,ti,h=>by
  simp only[FI.get]at h;split at h
  ·rename_i e;cases h;subst e;simp
  ·exact List.mem_cons_of_mem _ (FI.get_mem h)
 |[],_,_,h=>by simp[FI.get]at h
theorem cC{P:Program}{T:FI}(h:oI P T=true):Cq P T:=fun t ti e=>
 iG (by simpa using AGT.1 h (t,ti) (FI.get_mem e))
section
variable{P:Program} {T:FI} (hT:Cq P T)
include hT
theorem Cq.size{t:Nat}{ti:TI}(e:T.get t=some ti):(P.info? t).map (·.size)=some ti.size:=by
 obtain⟨i,h1,h2,_⟩:=(hT t ti e).info;simp_all
theorem Cq.sizeOf{t:Nat}{ti:TI}(e:T.get t=some ti)(w:World):(Go.sizeOf t).run P w= .ok ti.size w:=by
 obtain⟨i,h1,h2,_⟩:=(hT t ti e).info;simp[Go.sizeOf,typeInfo,h1,h2]
omit hT in
theorem Ai{t:Nat}{d:TypeDesc}(h:P.underlying t=some d)(w:World):(Go.underlying t).run P w= .ok d w:=by
 simp[Go.underlying,h]
theorem Cq.isAgg{t:Nat}{ti:TI}(e:T.get t=some ti)(w:World):(Go.isAgg t).run P w= .ok ti.desc.agg w:=by
 have hu:=(hT t ti e).oN;unfold Go.isAgg;cases hd:ti.desc<;>rw[hd]at hu<;>simp only[XO]at hu
 case st fs=>
  obtain⟨fields,hu,_⟩:=hu;simp[Ai hu,TD.agg]
 case other=>
  obtain⟨d,hu,hd⟩:=hu;rw[Sem.run_bind,Ai hu];cases d<;>simp_all[TypeDesc.isRow,TD.agg]
 all_goals simp[Ai hu,TD.agg]
end
end Go.Fw
end
section
namespace Go.Fw
def Gm{Y:Type}(P:Program)(o:Oper)(E:Env)(σ:St)(a:Act)(w:World)(k:K Y)(y:Y):Prop:=
 ∃v w' E' x σ',((execOp a.eval o).run P w= .ok (.value v) w'∨((execOp a.eval o).run P w= .ok .skip w'∧v=undef))∧Rel E' σ' a w'∧XR E' w' σ'.bx x v∧LV (Fo (fun _=>none) σ o.op) E σ.bx w E' σ'.bx w'∧
  σ'.tm.length=σ.tm.length∧k x σ' =some y
section
variable{Y:Type} {P:Program} {T:FI} {o:Oper} {E:Env} {σ:St} {a:Act} {w:World} {k:K Y} {y:Y}
theorem Gm.same(h:Rel E σ a w){v:Value}{x:XV}(hr:(execOp a.eval o).run P w= .ok (.value v) w)(hx:XR E w σ.bx x v)(hk:k x σ=some y):Gm P o E σ a w k y:=
 ⟨v,w,E,x,σ,.inl hr,h,hx,LV.refl _ E σ.bx w,rfl,hk⟩
theorem U3{vw:List Bx}{κ:IntKind}{n:Int}{v:Value}(h:VR E w vw (.v (.int κ) n) v):v= .int κ n:=by
 have:=h.2;grind[Rd]
theorem L7{vw:List Bx}{b:Bool}{v:Value}(h:VR E w vw (.v .bool b) v):v= .bool b:=by
 have:=h.2;grind[Rd]
theorem RW{vw:List Bx}{s:List UInt8}{v:Value}(h:VR E w vw (.v .str s) v):v= .string ⟨s.toArray⟩:=by
 have:=h.2;grind[Rd]
theorem VR.int{vw:List Bx}(κ:IntKind)(n:Int):VR E w vw (.v (.int κ) n) (.int κ n):=⟨rfl,by rfl⟩
theorem VR.bool{vw:List Bx}(b:Bool):VR E w vw (.v .bool b) (.bool b):=⟨rfl,by rfl⟩
theorem VR.str{vw:List Bx}(s:List UInt8):VR E w vw (.v .str s) (.string ⟨s.toArray⟩):=⟨rfl,by rfl⟩
theorem Q3(s:List UInt8):ByteArray.toList ⟨s.toArray⟩=s:=by
 simp_all
theorem iA(a b:List UInt8):(⟨a.toArray⟩:ByteArray)++⟨b.toArray⟩=⟨(a++b).toArray⟩:=by
 rfl
theorem jH(op:BinOp)(t:TypeId)(x y:Operand)(u v:Value)(hu:∀l,u≠ .agg l)(hn:u≠ .nilIface)(w:World):(eqGuard op t x y u v).run P w= .ok () w:=by
 unfold eqGuard;simp_all
theorem jx{op:BinOp}{κ:IntKind}{m n:Int}{k:AV→Option Y}{y:Y}(e:W9 op κ m n k=some y)(t:TypeId)(w:World):
  ∃z v,k z=some y∧(binOp op t (.int κ m) (.int κ n)).run P w= .ok v w∧ ∀E vw,VR E w vw z v:=by
 cases op with
 |add=>exact⟨_,.int κ (κ.wrap (m+n)),e,by simp[binOp,Op.intArith],fun _ _=>VR.int _ _⟩
 |sub=>exact⟨_,.int κ (κ.wrap (m-n)),e,by simp[binOp,Op.intArith],fun _ _=>VR.int _ _⟩
 |mul=>exact⟨_,.int κ (κ.wrap (m*n)),e,by simp[binOp,Op.intArith],fun _ _=>VR.int _ _⟩
 |and=>exact⟨_,.int κ (κ.wrap (BitVec.ofInt κ.bits m &&& BitVec.ofInt κ.bits n).toNat),e,by simp[binOp,Op.intBits],fun _ _=>VR.int _ _⟩
 |or=>exact⟨_,.int κ (κ.wrap (BitVec.ofInt κ.bits m ||| BitVec.ofInt κ.bits n).toNat),e,by simp[binOp,Op.intBits],fun _ _=>VR.int _ _⟩
 |xor=>exact⟨_,.int κ (κ.wrap (BitVec.ofInt κ.bits m ^^^ BitVec.ofInt κ.bits n).toNat),e,by simp[binOp,Op.intBits],fun _ _=>VR.int _ _⟩
 |andNot=>exact⟨_,.int κ (κ.wrap (BitVec.ofInt κ.bits m &&& ~~~BitVec.ofInt κ.bits n).toNat),e,by simp[binOp,Op.intBits],fun _ _=>VR.int _ _⟩
 |eql=>exact⟨_,.bool (m==n),e,by simp[binOp,Op.intCmp],fun _ _=>VR.bool _⟩
 |neq=>exact⟨_,.bool (m !=n),e,by simp[binOp,Op.intCmp],fun _ _=>VR.bool _⟩
 |lss=>exact⟨_,.bool (decide (m<n)),e,by simp[binOp,Op.intCmp],fun _ _=>VR.bool _⟩
 |leq=>exact⟨_,.bool (decide (m≤n)),e,by simp[binOp,Op.intCmp],fun _ _=>VR.bool _⟩
 |gtr=>exact⟨_,.bool (decide (m>n)),e,by simp[binOp,Op.intCmp],fun _ _=>VR.bool _⟩
 |geq=>exact⟨_,.bool (decide (m≥n)),e,by simp[binOp,Op.intCmp],fun _ _=>VR.bool _⟩
 |quo=>
  simp only[W9]at e;split at e
  ·cases e
  ·rename_i hz
   exact⟨_,.int κ (κ.wrap (m.tdiv n)),e,by simp[binOp,Op.intDiv,hz],fun _ _=>VR.int _ _⟩
 |rem=>
  simp only[W9]at e;split at e
  ·cases e
  ·rename_i hz
   exact⟨_,.int κ (m.tmod n),e,by simp[binOp,Op.intDiv,hz],fun _ _=>VR.int _ _⟩
 |_=>simp[W9]at e
theorem XA{op:BinOp}{κ κ':IntKind}{m n:Int}{k:AV→Option Y}{y:Y}(e:Tc op κ m n k=some y)(t:TypeId)(w:World):
  ∃z v,k z=some y∧(binOp op t (.int κ m) (.int κ' n)).run P w= .ok v w∧ ∀E vw,VR E w vw z v:=by
 unfold Tc at e;split at e
 ·cases e
 ·rename_i hn
  cases op with
  |shl=>exact⟨_,.int κ (κ.wrap (m*2^min n.toNat κ.bits)),e,by simp[binOp,Op.shift,hn],fun _ _=>VR.int _ _⟩
  |shr=>exact⟨_,.int κ (m.fdiv (2^min n.toNat κ.bits)),e,by simp[binOp,Op.shift,hn],fun _ _=>VR.int _ _⟩
  |_=>simp at e
theorem jh{op:BinOp}{s u:List UInt8}{k:AV→Option Y}{y:Y}(e:Yj op s u k=some y)(t:TypeId)(w:World):
  ∃z v,k z=some y∧(binOp op t (.string ⟨s.toArray⟩) (.string ⟨u.toArray⟩)).run P w= .ok v w∧ ∀E vw,VR E w vw z v:=by
 have h1:=Q3 s;have h2:=Q3 u;cases op with
 |eql=>exact⟨_,.bool (s==u),e,by simp[binOp,Op.stringOp,h1,h2],fun _ _=>VR.bool _⟩
 |neq=>exact⟨_,.bool (!(s==u)),e,by simp[binOp,Op.stringOp,h1,h2],fun _ _=>VR.bool _⟩
 |lss=>exact⟨_,.bool (Op.bytesLess s u),e,by simp[binOp,Op.stringOp,h1,h2],fun _ _=>VR.bool _⟩
 |leq=>exact⟨_,.bool (Op.bytesLess s u||s==u),e,by simp[binOp,Op.stringOp,h1,h2],fun _ _=>VR.bool _⟩
 |gtr=>exact⟨_,.bool (!(Op.bytesLess s u||s==u)),e,by simp[binOp,Op.stringOp,h1,h2],fun _ _=>VR.bool _⟩
 |geq=>exact⟨_,.bool (!Op.bytesLess s u),e,by simp[binOp,Op.stringOp,h1,h2],fun _ _=>VR.bool _⟩
 |add=>
  simp only[Yj]at e;split at e
  ·rename_i hl
   refine⟨_,.string ⟨(s++u).toArray⟩,e,?_,fun _ _=>VR.str _⟩;have hs:(⟨s.toArray⟩:ByteArray).size=s.length:=by rfl
   have hu:(⟨u.toArray⟩:ByteArray).size=u.length:=by rfl
   have hO: ¬(((⟨s.toArray⟩:ByteArray).size+(⟨u.toArray⟩:ByteArray).size:Nat):Int)>IntKind.i64.max:=by
    grind[Ej,IntKind.max,IntKind.signed,IntKind.bits]
   simp only[binOp,Op.stringOp,Sem.run_ite,AEK hO,iA];rfl
  simp_all
 |_=>simp[Yj]at e
theorem hI{d:TD}{x z:AV}{p:Bool}(e:eE d x z=some p){E:Env}{w:World}{vw:List Bx}{v u:Value}(hx:VR E w vw x v)(hz:VR E w vw z u){t:TypeId}
  (hu:XO P t d) (n:Nat):(Op.equalIn (n+1) t v u).run P w= .ok p w∧d.agg=false:=by
 unfold eE at e;split at e
 ·rename_i κ j a k b
  split at e
  ·rename_i hj
   subst hj;cases e;rw[U3 hx,U3 hz];exact⟨run_equalIn_int (P:=P) w n t j κ a b hu,rfl⟩
  simp_all
 ·cases e
  rw[L7 hx,L7 hz];exact⟨run_equalIn_bool' (P:=P) w n t _ _ hu,rfl⟩
 ·cases e
  rename_i a b;rw[RW hx,RW hz];have q:=run_equalIn_string (P:=P) w n t ⟨a.toArray⟩ ⟨b.toArray⟩ hu;rw[Q3,Q3]at q;exact⟨q,rfl⟩
 simp_all
theorem XL{T:FI}(hT:Cq P T){E:Env}{w:World}{vw:List Bx}{xs ys:Array Value}:∀{fields:List Field} {i:Nat} {l m:List AV} {vs us:List Value} {r:Bool},
  (∀f∈fields,f.name≠ "_")→X7 E w vw l vs→X7 E w vw m us→GD T i (fields.map fun f=>(f.offset,f.type)) l m=some r→
  (∀(j:Nat) v,vs[j]? =some v→xs[i+j]? =some v)→(∀(j:Nat) v,us[j]? =some v→ys[i+j]? =some v)→(Op.eqFields 9999 xs ys fields).run P w= .ok r w
 |[],i,[],[],_,_,r,_,_,_,e,_,_=>by
  simp only[AGn,GD,ADS]at e;subst e;rfl
 |f::fs,i,x::l,z::m,v::vs,u::us,r,hn,hx,hz,e,h1,h2=>by
  simp only[AGp,GD]at e;split at e
  case isFalse=>cases e
  rename_i ho;have hv:=h1 0 v rfl;have hu:=h2 0 u rfl;simp only[AGo]at hv hu;have AAq:=hn f (by simp);split at e
  case h_2=>cases e
  rename_i ti Ql;split at e
  case h_2=>cases e
  rename_i p hp;simp only[ADV]at e;obtain⟨r',e',rfl⟩:=e;have AEo:=XL hT (fields:=fs) (i:=i+1) (l:=l) (m:=m) (vs:=vs) (us:=us) (r:=r') (fun f hf=>hn f (by simp[hf])) hx.2 hz.2 e'
   (fun j v' hj=>by have:=h1 (j+1) v' (by simp_all);rwa [show i+(j+1)=i+1+j by omega]at this)
   (fun j v' hj=>by have:=h2 (j+1) v' (by simp_all);rwa [show i+(j+1)=i+1+j by omega]at this)
  have YO:=(hT f.type ti Ql).oN;obtain⟨q,na⟩:=hI (P:=P) hp hx.1 hz.1 (t:=f.type) YO 9998;have YA:=Cq.isAgg hT Ql w;rw[na]at YA;have p1:(part f.type xs f.offset).run P w= .ok v w:=by simp[part,YA,ho,hv]
  have p2:(part f.type ys f.offset).run P w= .ok u w:=by simp[part,YA,ho,hu]
  simp only[Op.eqFields,AAq,ne_eq,not_false_eq_true,AGF,Sem.run_bind,p1,p2,Result.andThen_ok,q,AEo,Sem.run_ite,Sem.run_pure];grind
 |[],_,_::_,_,_,_,_,_,_,_,e,_,_=>by simp[GD]at e
 |[],_,[],_::_,_,_,_,_,_,_,e,_,_=>by simp[GD]at e
 |_::_,_,[],_,_,_,_,_,_,_,e,_,_=>by simp[GD]at e
 |_::_,_,x::_,[],_,_,_,_,_,_,e,_,_=>by simp[GD]at e
 |_::_,_,_::_,_::_,[],_,_,_,hx,_,_,_,_=>hx.elim
 |_::_,_,_::_,_::_,_::_,[],_,_,_,hz,_,_,_=>hz.elim
theorem b_(op:BinOp)(t:TypeId)(p q:Bool)(hu:P.underlying t=some .bool)(w:World):(op= .eql→(binOp op t (.bool p) (.bool q)).run P w= .ok (.bool (p==q)) w)∧
  (op= .neq→(binOp op t (.bool p) (.bool q)).run P w= .ok (.bool (!(p==q))) w):=by
 have h:=run_equalIn_bool' (P:=P) w 9999 t p q hu;constructor
 ·rintro rfl
  grind[binOp,Op.equal,Op.maxDepth,Sem.run_bind,Result.andThen_ok,Sem.run_pure]
 ·rintro rfl
  grind[binOp,Op.equal,Op.maxDepth,Sem.run_bind,Result.andThen_ok,Sem.run_pure]
theorem X2{T:FI}(hT:Cq P T){t:Nat}{op:BinOp}{x z:XV}{k:AV→Option Y}{y:Y}(e:iz T t op x z k=some y){E:Env}{w:World}{vw:List Bx}{v u:Value}
  (hx:XR E w vw x v) (hz:XR E w vw z u) (ox oz:Operand):
  ∃r val,k r=some y∧(do eqGuard op t ox oz v u;binOp op t v u:Sem Value).run P w= .ok val w∧VR E w vw r val:=by
 have guard:∀(v u:Value),(∀l,v≠ .agg l)→v≠ .nilIface→ ∀val,(binOp op t v u).run P w= .ok val w→(do eqGuard op t ox oz v u;binOp op t v u:Sem Value).run P w= .ok val w:=by
  grind[Sem.run_bind,jH,Result.andThen_ok]
 unfold iz at e;split at e
 ·rename_i j m j' n
  have hv:=U3 (E:=E) (vw:=vw) hx;have hu:=U3 (E:=E) (vw:=vw) hz;subst hv hu;have done:∀(q:∃r val,k r=some y∧(binOp op t (.int j m) (.int j' n)).run P w= .ok val w∧ ∀E vw,VR E w vw r val),∃r val,k r=some y∧(do eqGuard op t ox oz (.int j m) (.int j' n);binOp op t (.int j m) (.int j' n):Sem Value).run P w= .ok val w∧VR E w vw r val:=by
   grind
  split at e
  ·exact done (XA e t w)
  ·exact done (XA e t w)
  ·split at e
   ·rename_i hj
    subst hj;exact done (jx e t w)
   simp_all
 ·rename_i s s'
  have hv:=RW (E:=E) (vw:=vw) hx;have hu:=RW (E:=E) (vw:=vw) hz;subst hv hu;obtain⟨r,val,h1,h2,h3⟩:=jh (P:=P) e t w;grind
 ·rename_i p q
  have hv:=L7 (E:=E) (vw:=vw) hx;have hu:=L7 (E:=E) (vw:=vw) hz;subst hv hu;split at e
  ·rename_i ti Ql
   have YO:=(hT t ti Ql).oN;split at e
   ·rename_i hd
    rw[hd]at YO;split at e
    ·exact⟨_,_,e,guard _ _ (by simp) (by simp) _ ((b_ _ t p q YO w).1 rfl),VR.bool _⟩
    ·exact⟨_,_,e,guard _ _ (by simp) (by simp) _ ((b_ _ t p q YO w).2 rfl),VR.bool _⟩
    simp_all
   simp_all
  simp_all
 ·rename_i l m
  obtain⟨vs,rfl,RQ⟩:=hx;obtain⟨us,rfl,hus⟩:=hz;have key:∀r,((T.fields t).bind fun fs=>GD T 0 fs l m)=some r→(Op.equalIn 10000 t (.agg vs) (.agg us)).run P w= .ok r w∧P.eqGuardType P.depth t=false:=by
   intro r hr;simp only[ADc]at hr;obtain⟨fs,hf,hr⟩:=hr;unfold FI.fields at hf;split at hf
   ·rename_i fs' hd
    cases hf;simp only[ADV]at hd;obtain⟨ti,Ql,hd⟩:=hd;have YO:=(hT t ti Ql).oN;rw[hd]at YO;obtain⟨fields,hu,hfs,hnm,nw,hg⟩:=YO;grind[Program.fieldsOf,run_equalIn_agg,XL]
   simp_all
  split at e
  ·rename_i r hr
   obtain⟨q,hg⟩:=key r hr;refine⟨_,_,e,?_,VR.bool r⟩;grind[Sem.run_bind,run_eqGuard_agg,Result.andThen_ok,run_eql_struct]
  ·rename_i r hr
   obtain⟨q,hg⟩:=key r hr;refine⟨_,_,e,?_,VR.bool (!r)⟩;grind[Sem.run_bind,run_eqGuard_agg,Result.andThen_ok,run_neq_struct]
  simp_all
 simp_all
end
end Go.Fw
end
section
namespace Go.Fw
section
variable{Y:Type} {P:Program} {T:FI} (hT:Cq P T) {E:Env} {w:World} {vw:List Bx}
include hT
theorem sY{t:Nat}{s b:Nat}{fs:List AAO}{rw:Option Ty}(e:T.get t=some ⟨s,b,.st fs,rw⟩):∃fields,P.underlying t=some (.struct fields)∧fields.toList.map (fun f=>(f.offset,f.type))=fs∧
  ∀f∈fields.toList,∃i,P.info? f.type=some i∧i.size≠0:=by
 obtain⟨fields,h1,h2,h3,_⟩:=(hT t _ e).oN;simp_all
omit hT in
theorem bw{a:Addr}{f:Field}(h:∃i,P.info? f.type=some i∧i.size≠0):(fieldPlace a f).run P w= .ok (a.add f.offset) w:=by
 obtain⟨i,h1,h2⟩:=h;simp[fieldPlace,Go.sizeOf,typeInfo,h1,h2]
theorem O7{t:Nat}{s b:Nat}{fs:List AAO}{rw:Option Ty}(e:T.get t=some ⟨s,b,.st fs,rw⟩){f o u:Nat}(hf:fs[f]? =some (o,u)){a:Addr}:
  (Instr.fieldAt t (.pointer (some a)) f).run P w= .ok (.pointer (some (a.add o))) w:=by
 obtain⟨fields,h1,h2,h3⟩:=sY hT e;subst h2;simp only[AFr,ADV]at hf;obtain⟨fld,hfl,he⟩:=hf;have hm:=AFB hfl;have hfa:fields[f]? =some fld:=by simp_all
 simp only[AFu]at he;simp[Instr.fieldAt,Ai h1,hfa,Instr.sureAddr,bw (h3 fld hm),he.1]
theorem YJ{t:Nat}{x z:XV}{f:Nat}(e:gj T t x f=some z){v:Value}(hx:XR E w vw x v):∃u,(Instr.fieldAt t v f).run P w= .ok u w∧XR E w vw z u:=by
 unfold gj at e;split at e
 case h_2=>cases e
 rename_i s b fs _ Ql;split at e
 case h_2=>cases e
 rename_i o u hf;split at e
 ·rename_i b' j
  cases e;obtain⟨h1,rfl⟩:=hx;exact⟨_,O7 hT Ql hf,h1,by rw[Addr.add_eq]⟩
 ·rename_i b' p i sz j
  cases e;obtain⟨h0,h1⟩:=hx;cases v with
  |pointer oa=>
   cases oa with
   |none=>simp[Vm]at h0
   |some a=>
    obtain⟨ab,ao,sp⟩:=a;cases sp with
    |some _=>simp[Vm]at h0
    |none=>
     refine⟨_,O7 hT Ql hf,by rw[Addr.add_eq];rfl,?_⟩;revert h1;split
     ·rintro⟨hp,q,ys,bb,o',len,cap,g1,g2,g3,g4⟩
      refine⟨hp,q,ys,bb,o',len,cap,g1,g2,g3,?_⟩;simp only[Value.pointer.injEq,ADS,Addr.mk.injEq,AGN]at g4;grind[Addr.add_eq,Nat.add_assoc]
     all_goals simp_all
  |_=>simp[Vm]at h0
 ·rename_i s r y j
  cases e;obtain⟨bb,o',cs,rfl,h2,h3,h4,h5⟩:=hx;refine⟨_,O7 hT Ql hf,bb,o',cs,?_,h2,h3,h4,h5⟩;rw[Addr.add_eq,Nat.add_assoc]
 simp_all
theorem aT{t:Nat}{x z:XV}{f:Nat}(e:pk T t x f=some z){v:Value}(hx:XR E w vw x v):∃u,(Instr.field t v f).run P w= .ok u w∧XR E w vw z u:=by
 unfold pk at e;split at e
 case h_2=>cases e
 rename_i s b fs _ l Ql;obtain⟨vs,rfl,RQ⟩:=hx;split at e
 case h_2=>cases e
 rename_i o u hf;split at e
 case h_2=>cases e
 rename_i ti htu;obtain⟨fields,h1,h2,h3⟩:=sY hT Ql;subst h2;simp only[AFr,ADV]at hf;obtain⟨fld,hfl,he⟩:=hf;have hfa:fields[f]? =some fld:=by simp_all
 simp only[AFu]at he;obtain⟨rfl,rfl⟩:=he;have YA:=Cq.isAgg hT htu w;have LW:=Cq.sizeOf hT htu w;split at e
 ·rename_i ha
  cases e;rw[ha]at YA;refine⟨.agg (vs.extract fld.offset (fld.offset+ti.size)),?_,_,rfl,?_⟩
  ·simp[Instr.field,Ai h1,hfa,asAgg,part,YA,LW]
  ·have:(vs.extract fld.offset (fld.offset+ti.size)).toList=(vs.toList.drop fld.offset).take ti.size:=by
    simp_all
   rw[this];exact A5.take _ (A5.drop _ RQ)
 ·rename_i ha
  simp only[AGc]at ha;rw[ha]at YA;simp only[ADV]at e;obtain⟨y,hy,rfl⟩:=e;obtain⟨v,hv,hr⟩:=A5.get RQ hy;refine⟨v,?_,hr⟩;have:vs[fld.offset]? =some v:=by simp_all
  simp[Instr.field,Ai h1,hfa,asAgg,part,YA,this]
theorem Ik{t:Nat}{r:Ty}(h:T.M4 t r=true):∃e ti,P.underlying t=some (.slice e)∧T.get e=some ti∧ti.size=r.n∧ti.bytes≤512∧ti.row=some r:=by
 unfold FI.M4 at h;split at h
 ·rename_i ti Ql
  simp only[AEE,AEe]at h;unfold FI.elem at Ql;split at Ql
  ·rename_i e hd
   simp only[ADV]at hd;obtain⟨tj,h1,h2⟩:=hd;have:=(hT t tj h1).oN;rw[h2]at this;exact⟨e,ti,this,Ql,h.1.1,h.1.2,h.2⟩
  simp_all
 simp_all
theorem Ri{t:Nat}(h:T.isStr t=true):P.underlying t=some .string:=by
 unfold FI.isStr at h;split at h
 ·rename_i hd
  simp only[ADV]at hd;obtain⟨tj,h1,h2⟩:=hd;have:=(hT t tj h1).oN;rw[h2]at this;exact this
 simp_all
theorem ZU{t:Nat}(h:T.vc t=true):∃e,P.underlying t=some (.slice e):=by
 unfold FI.vc at h;split at h
 ·rename_i e hd
  simp only[ADV]at hd;obtain⟨tj,h1,h2⟩:=hd;have:=(hT t tj h1).oN;rw[h2]at this;exact⟨e,this⟩
 simp_all
omit hT in
theorem EX{x:XV}{n:Int}(e:V5 x=some n){v:Value}(hx:XR E w vw x v):∃κ,v= .int κ n:=by
 unfold V5 at e;split at e
 ·cases e;exact⟨_,U3 (E:=E) (w:=w) (vw:=vw) hx⟩
 ·cases e
theorem WE{t:Nat}{r:Ty}(h:T.M4 t r=true){κ:IntKind}{i:Int}{a:Addr}{len cap:Nat}(h0:0≤i)(h1:i<(len:Int)):
  (Instr.indexAt t (.slice (some a) len cap) (.int κ i)).run P w= .ok (.pointer (some (a.add (i.toNat*r.n)))) w:=by
 obtain⟨e,ti,hu,Ql,hs,_⟩:=Ik hT h;have LW:=Cq.sizeOf hT Ql w;simp[Instr.indexAt,asIntOf,Ai hu,h0,h1,LW,hs]
omit hT in
theorem lg{bx:List Bx}{Fs:List AAF}(hB:Hy E w bx bx Fs)(st:∀c,E.S c→E.T c){x:AV}{v:Value}(hv:VR E w bx x v){q:Ty}{ys:List q.D}(e:Hu bx x=some ⟨q,ys⟩):
  ∃a cap,v= .slice a ys.length cap∧ys.length≤cap∧(ys.length=0∨ ∃b o,a=some ⟨b,o,none⟩):=by
 have:=UX (Cf.refl bx) hB st hv e;simp only[Rd]at this;obtain⟨a,cap,h1,h2,h3⟩:=this;simp only[AFW,AGN]at h1;exact⟨a,cap,h1,h2,h3.imp id fun⟨b,o,h,_⟩=>⟨b,o,h⟩⟩
theorem X8{σ:St}{Fs:List AAF}(hB:Hy E w σ.bx σ.bx Fs)(st:∀c,E.S c→E.T c){t:Nat}{x i:XV}{k:K Y}{y:Y}(e:ZZ σ T t x i k=some y){v u:Value}
  (hx:XR E w σ.bx x v) (hi:XR E w σ.bx i u):∃z val,k z σ=some y∧(Instr.indexAt t v u).run P w= .ok val w∧XR E w σ.bx z val:=by
 unfold ZZ at e;split at e
 ·rename_i s r rows n hn
  obtain⟨κ,rfl⟩:=EX hn hi;split at e
  case isFalse=>cases e
  rename_i WQ;split at e
  case isFalse=>cases e
  rename_i hb;obtain⟨h0,h1⟩:=hb;simp only[XR,VR,Rd]at hx;obtain⟨a,cap,hv,hl,hx⟩:=hx;simp only[AFW,AGN]at hv;subst hv;rcases hx with hx|⟨b,o,rfl,hb,hx⟩
  ·omega
  ·have RF:n.toNat<rows.length:=by omega
   obtain⟨cs,c1,c2,c3⟩:=hx n.toNat _ (LJ RF);refine⟨_,_,e,WE hT WQ h0 h1,b,o+n.toNat*r.n,cs,?_,by omega,c1,c2,by omega⟩;rw[Addr.add_eq];rfl
 ·rename_i b p n hn
  obtain⟨κ,rfl⟩:=EX hn hi;split at e
  case h_2=>cases e
  rename_i q hq;split at e
  case isFalse=>cases e
  rename_i WQ;split at e
  case isFalse=>cases e
  rename_i hb;obtain⟨h0,h1⟩:=hb
  change VR E w σ.bx (.ref b p) v at hx
  obtain⟨a,cap,rfl,hl,ha⟩:=lg hB st hx hq;rcases ha with ha|⟨b',o,rfl⟩
  ·omega
  ·refine⟨_,_,e,WE hT WQ h0 h1,by rw[Addr.add_eq];rfl,?_⟩
   simp only[Hu]at hq;obtain⟨_,hx⟩:=hx;grind[Addr.add_eq]
 ·rename_i b p off n' n hn
  obtain⟨κ,rfl⟩:=EX hn hi;split at e
  case h_2=>cases e
  rename_i q hq;split at e
  case isFalse=>cases e
  rename_i WQ;split at e
  case isFalse=>cases e
  rename_i hb;obtain⟨h0,h1⟩:=hb;simp only[Hu]at hq;obtain⟨h00,hx⟩:=hx;revert hx;split
  ·rename_i d r rows iw
   rw[iw]at hq;dsimp only at hq
   rintro⟨hp,q',ys,a,len,cap,g1,g2,g3,rfl⟩
   have Uu:=V7 (Cf.refl _) hB st iw hp g1 g3;simp only[Rd]at Uu;obtain⟨a',cap',ee,hle,Uu⟩:=Uu;simp only[AFW,Value.slice.injEq,AGN]at ee;obtain⟨rfl,rfl,rfl⟩:=ee;rcases Uu with Uu|⟨b',o,rfl,_,_⟩
   ·omega
   ·unfold Pp
    rw[AEK (by omega)];have hq1:q.1=q':=by
     grind
    refine⟨_,_,e,WE hT WQ h0 h1,by simp only[Option.map];rw[Addr.add_eq,Addr.add_eq];rfl,?_⟩;grind[Addr.add_eq,Nat.add_assoc,Nat.add_mul]
  all_goals simp_all
 simp_all
theorem Vq{σ:St}{t:Nat}{x i:XV}{k:K Y}{y:Y}(e:RP T t σ x i k=some y){v u:Value}(hx:XR E w vw x v)(hi:XR E w vw i u):
  ∃z val,k z σ=some y∧(Instr.index t v u).run P w= .ok val w∧XR E w vw z val:=by
 unfold RP at e;split at e
 ·rename_i s n hn
  obtain⟨κ,rfl⟩:=EX hn hi;have hv:=RW (E:=E) (w:=w) (vw:=vw) hx;subst hv;split at e
  case isFalse=>cases e
  rename_i nw;split at e
  case isFalse=>cases e
  rename_i hb;obtain⟨h0,h1⟩:=hb;refine⟨_,.int .u8 ((s.getD n.toNat 0).toNat:Int),e,?_,VR.int (E:=E) (vw:=vw) _ _⟩;have RF:n.toNat<s.length:=by omega
  have:(⟨s.toArray⟩:ByteArray)[n.toNat]? =some s[n.toNat]:=by
   rw[getElem?_pos _ _ (by grind[ByteArray.size])];rfl
  simp[Instr.index,asIntOf,Ai (Ri hT nw),h0,this,RF]
 simp_all
omit hT in
theorem V4{x z:XV}{i:Nat}(e:cO x i=some z){v:Value}(hx:XR E w vw x v):∃u,(Instr.extract v i).run P w= .ok u w∧XR E w vw z u:=by
 unfold cO at e;split at e
 case h_2=>cases e
 rename_i l;obtain⟨vs,rfl,RQ⟩:=hx;split at e
 ·rename_i x hx
  cases e;obtain⟨v,hv,hr⟩:=RQ.get hx;have:vs[i]? =some v:=by simpa using hv
  exact⟨v,by simp[Instr.extract,this],hr⟩
 ·rename_i q hx
  cases e;obtain⟨v,hv,ws,rfl,hr⟩:=RQ.get hx;have:vs[i]? =some (.agg ws):=by simpa using hv
  exact⟨.agg ws,by simp[Instr.extract,this],ws,rfl,hr⟩
 ·cases e
omit hT in
theorem Z0{bx:List Bx}{Fs:List AAF}(hB:Hy E w bx bx Fs)(st:∀c,E.S c→E.T c){x:AV}{n:Nat}(e:lenOf bx x=some n){v:Value}(hx:VR E w bx x v):
  ∃a cap,v= .slice a n cap:=by
 cases x with
 |nil=>simp only[lenOf,ADS]at e;subst e;exact⟨_,_,hx⟩
 |sl s r x=>
  simp only[lenOf,ADS]at e;subst e;simp only[VR,Rd]at hx;obtain⟨a,cap,h,_⟩:=hx;simp only[AFW,AGN]at h;exact⟨a,cap,h⟩
 |ref b p=>
  simp only[lenOf]at e;split at e
  ·rename_i d r rows hb
   simp only[ADV]at e;obtain⟨q,hq,rfl⟩:=e;obtain⟨a,cap,h,_⟩:=lg hB st hx (q:=q.1) (ys:=q.2) (by simp only[Hu,hb];exact hq);exact⟨a,cap,h⟩
  ·cases e
 |win b p off m=>
  simp only[lenOf]at e;split at e
  ·rename_i d r rows hb
   cases e;simp only[VR,hb]at hx;obtain⟨_,_,q,ys,a,len,cap,_,_,_,rfl⟩:=hx;exact⟨_,_,rfl⟩
  ·cases e
 |_=>simp[lenOf]at e
omit hT in
theorem NN{big:Bool}{x z:XV}{k:AV→Option Y}{y:Y}(e:iO big x z k=some y){v u:Value}(hx:XR E w vw x v)(hz:XR E w vw z u)(t s:Array TypeId)(tt:TypeId):
  ∃r val,k r=some y∧(if big then Builtin.max_ t tt #[v,u]else Builtin.min_ t tt #[v,u]).run P w= .ok val w∧VR E w vw r val:=by
 unfold iO at e;split at e
 ·rename_i j m j' n
  have hv:=U3 (E:=E) (w:=w) (vw:=vw) hx;have hu:=U3 (E:=E) (w:=w) (vw:=vw) hz;subst hv hu;split at e
  case isFalse=>cases e
  rename_i hj;subst hj;cases big with
  |true=>exact⟨_,.int j (if n>m then n else m),e,by simp[Builtin.max_,Builtin.max2],VR.int _ _⟩
  |false=>exact⟨_,.int j (if n<m then n else m),e,by simp[Builtin.min_,Builtin.min2],VR.int _ _⟩
 ·cases e
omit hT in
theorem Zl{op:UnOp}{x:XV}{k:AV→Option Y}{y:Y}(e:vm op x k=some y){v:Value}(hx:XR E w vw x v):
  ∃r val,k r=some y∧(Op.unary op v).run P w= .ok val w∧VR E w vw r val:=by
 unfold vm at e;split at e
 ·have hv:=L7 (E:=E) (w:=w) (vw:=vw) hx
  subst hv;exact⟨_,_,e,by simp[Op.unary],VR.bool _⟩
 ·rename_i j n
  have hv:=U3 (E:=E) (w:=w) (vw:=vw) hx;subst hv;exact⟨_,.int j (j.wrap (0-n)),e,by simp[Op.unary,Op.intArith],VR.int _ _⟩
 ·cases e
end
end Go.Fw
end
section
namespace Go.Fw
theorem LN{a:Ty}(x:a.D):eL rfl x=x:=rfl
theorem Wu{w:World}{S:Nat→Prop}:∀{r:Ty} {d j:Nat} {cs:List Value} {x:r.D} {F:AAF} {t:Ty} {y:t.D},Ow w S d r cs x F→Af r j x=some ⟨t,y⟩→
  ∃v F1 F2,cs[j]? =some v∧Ow w S d t [v] y F1∧F.Perm (F1++F2)∧
   ∀(w':World) (S':Nat→Prop) (v':Value) (y':t.D) (bX:AAF) (x':r.D),(∀b,S b→S' b)→(∀b,S b→w'.heap[b]? =w.heap[b]?)→(∀b∈F2,w'.heap[b]? =w.heap[b]?)→
    Ow w' S' d t [v'] y' bX→B4 r j x t y' =some x'→ ∃F',F'.Perm (bX++F2)∧Ow w' S' d r (cs.set j v') x' F'
 | .cons c r,d,0,cs,x,F,t,y,h,e=>by
  simp only[Ow]at h;obtain⟨v,l,A,B,rfl,rfl,h1,h2⟩:=h;simp only[Af,ADS,AEY]at e;obtain⟨rfl,e⟩:=e;obtain rfl:=AFq e;refine⟨v,A,B,rfl,h1,AG8 _,fun w' S' v' y' bX x' hS gV hF ho hx=> ?_⟩;simp only[B4,AG3,LN,ADS]at hx;subst hx;refine⟨bX++B,AG8 _,?_⟩;simp only[Ow,List.set_cons_zero];exact⟨v',l,bX,B,rfl,rfl,ho,CH hS gV hF h2⟩
 | .cons c r,d,j+1,cs,x,F,t,y,h,e=>by
  simp only[Ow]at h;obtain⟨v,l,A,B,rfl,rfl,h1,h2⟩:=h;simp only[Af]at e;obtain⟨u,F1,F2,k1,k2,k3,k4⟩:=Wu h2 e;refine⟨u,F1,A++F2,by simp_all,k2,?_,fun w' S' v' y' bX x' hS gV hF ho hx=> ?_⟩
  ·grind
  ·simp only[B4,ADV]at hx
   obtain⟨z,hz,rfl⟩:=hx;obtain⟨F',p1,p2⟩:=k4 w' S' v' y' bX z hS gV (fun b hb=>hF b (by simp[hb])) ho hz;refine⟨A++F',?_,?_⟩
   ·grind
   ·simp only[Ow,List.set_cons_succ]
    exact⟨v,_,A,F',rfl,rfl,CH hS gV (fun b hb=>hF b (by simp[hb])) h1,p2⟩
 | .int k,d,0,cs,x,F,t,y,h,e=>by
  simp only[Af,ADS,AEY]at e;obtain⟨rfl,e⟩:=e;obtain rfl:=AFq e;have hc:=Rc h;obtain⟨v,rfl⟩:∃v,cs=[v]:=by
   cases cs with
   |nil=>simp[Ty.n]at hc
   |cons a l=>cases l with
    |nil=>simp_all
    |cons _ _=>simp[Ty.n]at hc
  refine⟨v,F,[],rfl,h,by simp,fun w' S' v' y' bX x' hS gV hF ho hx=>⟨bX,by simp,?_⟩⟩;simp only[B4,AG3,LN,ADS]at hx;simp_all
 | .bool,d,0,cs,x,F,t,y,h,e=>by
  simp only[Af,ADS,AEY]at e;obtain⟨rfl,e⟩:=e;obtain rfl:=AFq e;have hc:=Rc h;obtain⟨v,rfl⟩:∃v,cs=[v]:=by
   cases cs with
   |nil=>simp[Ty.n]at hc
   |cons a l=>cases l with
    |nil=>simp_all
    |cons _ _=>simp[Ty.n]at hc
  refine⟨v,F,[],rfl,h,by simp,fun w' S' v' y' bX x' hS gV hF ho hx=>⟨bX,by simp,?_⟩⟩;simp only[B4,AG3,LN,ADS]at hx;simp_all
 | .str,d,0,cs,x,F,t,y,h,e=>by
  simp only[Af,ADS,AEY]at e;obtain⟨rfl,e⟩:=e;obtain rfl:=AFq e;have hc:=Rc h;obtain⟨v,rfl⟩:∃v,cs=[v]:=by
   cases cs with
   |nil=>simp[Ty.n]at hc
   |cons a l=>cases l with
    |nil=>simp_all
    |cons _ _=>simp[Ty.n]at hc
  refine⟨v,F,[],rfl,h,by simp,fun w' S' v' y' bX x' hS gV hF ho hx=>⟨bX,by simp,?_⟩⟩;simp only[B4,AG3,LN,ADS]at hx;simp_all
 | .sl r,d,0,cs,x,F,t,y,h,e=>by
  simp only[Af,ADS,AEY]at e;obtain⟨rfl,e⟩:=e;obtain rfl:=AFq e;have hc:=Rc h;obtain⟨v,rfl⟩:∃v,cs=[v]:=by
   cases cs with
   |nil=>simp[Ty.n]at hc
   |cons a l=>cases l with
    |nil=>simp_all
    |cons _ _=>simp[Ty.n]at hc
  refine⟨v,F,[],rfl,h,by simp,fun w' S' v' y' bX x' hS gV hF ho hx=>⟨bX,by simp,?_⟩⟩;simp only[B4,AG3,LN,ADS]at hx;simp_all
 | .unit,_,_,_,_,_,_,_,_,e=>by simp[Af]at e
 | .int _,_,_+1,_,_,_,_,_,_,e=>by simp[Af]at e
 | .bool,_,_+1,_,_,_,_,_,_,e=>by simp[Af]at e
 | .str,_,_+1,_,_,_,_,_,_,e=>by simp[Af]at e
 | .sl _,_,_+1,_,_,_,_,_,_,e=>by simp[Af]at e
theorem ZQ{Fs:List AAF}{i:Nat}{G G':AAF}(h:Fs[i]? =some G):(Fs.set i G').flatten.Perm (G'++(Fs.set i []).flatten):=by
 have RF:=(ADa.1 h).1;have p1:=PW (Fs:=Fs.set i G') (b:=i) (F:=G') (AGJ (by omega));simp_all
theorem gz{w:World}{S:Nat→Prop}{d:Nat}{q:Ty}{a:Option Addr}{len cap:Nat}{ys:List q.D}{F:AAF}(h:Ow w S (d+1) (.sl q) [.slice a len cap] ys F){i:Nat}(hi:i<ys.length):
  ∃b o arr ty fr cs G R,a=some ⟨b,o,none⟩∧w.heap[b]? =some (.cells arr ty fr)∧ks fr arr.size∧o+i*q.n+q.n≤arr.size∧cs.length=q.n∧BA w b (o+i*q.n) cs∧
   Ow w S d q cs (rowAt q ys i) G∧F.Perm (G++(b::R))∧
   ∀(w':World) (S':Nat→Prop) (Jb:Array Value) (Wd:List Value) (Uh:q.D) (G':AAF),(∀c,S c→S' c)→(∀c,S c→w'.heap[c]? =w.heap[c]?)→(∀c∈R,w'.heap[c]? =w.heap[c]?)→
    w'.heap[b]? =some (.cells Jb ty fr)→Jb.size=arr.size→(∀k,(k<o+i*q.n∨o+i*q.n+q.n≤k)→Jb[k]? =arr[k]?)→Wd.length=q.n→BA w' b (o+i*q.n) Wd→
    Ow w' S' d q Wd Uh G'→ ∃F',F'.Perm (G'++(b::R))∧Ow w' S' (d+1) (.sl q) [.slice a len cap] (ys.set i Uh) F':=by
 simp only[Ow]at h;obtain⟨a',cap',e,hle,h⟩:=h;simp only[AFW,Value.slice.injEq,AGN]at e;obtain⟨rfl,rfl,rfl⟩:=e;rcases h with⟨h1,_⟩|⟨b,o,arr,ty,fr,Fs,rfl,hb,LW,hu,rfl,hFl,Vr⟩
 ·omega
 ·have hG:Fs[i]? =some (Fs[i]'(by omega)):=ADU _
  generalize Fs[i]'(by omega)=G at hG
  obtain⟨cs,c1,c2,c3⟩:=Vr i _ G (LJ hi) hG;have hbound:o+i*q.n+q.n≤arr.size:=by
   have:(i+1)*q.n≤cap*q.n:=AGI _ (by omega);grind
  refine⟨b,o,arr,ty,fr,cs,G,(Fs.set i []).flatten,rfl,hb,fun i hi=>hu i (by omega),hbound,c1,c2,c3,?_,?_⟩
  ·refine(List.Perm.cons b (PW hG)).trans ?_
   exact List.perm_middle.symm
  ·intro w' S' Jb Wd Uh G' hS gV hR l8 hs' hk qF hca ho
   refine⟨b::(Fs.set i G').flatten,?_,?_⟩
   ·grind[List.Perm.cons,ZQ,trans]
   ·simp only[Ow]
    refine⟨_,cap,by simp,by simp_all,.inr ⟨b,o,Jb,ty,fr,Fs.set i G',rfl,l8,by omega,by simp_all,rfl,by simp_all,fun k y H hy hH=> ?_⟩⟩;by_cases e:k=i
    ·grind
    ·rw[AFx (by omega)]at hy
     rw[AFx (by omega)]at hH;obtain⟨ds,d1,d2,d3⟩:=Vr k y H hy hH;refine⟨ds,d1,fun j v hj=> ?_,CH hS gV (fun c hc=>hR c (AFz.2 ⟨H,AFB (by grind:(Fs.set i [])[k]? =some H),hc⟩)) d3⟩;have qW:=(ADa.1 hj).1;have hold:=d2 j v hj;simp only[World.cell?,hb,AGS,AFZ,AFg]at hold;simp only[World.cell?,l8,AGS,AFZ,AFg];rw[hk,hold];rcases Nat.lt_or_gt_of_ne e with e|e
     ·left
      have:(k+1)*q.n≤i*q.n:=AGI _ e;grind
     ·right
      have:(i+1)*q.n≤k*q.n:=AGI _ e;grind
theorem YF{w:World}{S:Nat→Prop}:∀{p:List Y_} {d:Nat} {r:Ty} {h:Value} {rows:List r.D} {F:AAF} {q:Ty} {ys:List q.D},Ow w S d (.sl r) [h] rows F→BU r rows p→
  DK r rows p=some ⟨q,ys⟩→p.length<d→ ∃h' F1 F2,Ex w h p=some h'∧Ow w S (d-p.length) (.sl q) [h'] ys F1∧F.Perm (F1++F2)∧
   ∀(w':World) (S':Nat→Prop) (ix:List q.D) (bX:AAF) (BG:List r.D),(∀c,S c→S' c)→(∀c,S c→w'.heap[c]? =w.heap[c]?)→(∀c∈F2,w'.heap[c]? =w.heap[c]?)→
    Ow w' S' (d-p.length) (.sl q) [h'] ix bX→bL r rows p q ix=some BG→ ∃F',F'.Perm (bX++F2)∧Ow w' S' d (.sl r) [h] BG F'
 |[],d,r,h,rows,F,q,ys,ho,_,hg,_=>by
  simp only[DK,ADS,AEY]at hg;obtain⟨rfl,e⟩:=hg;obtain rfl:=AFq e;refine⟨h,F,[],Bc,ho,by simp,fun w' S' ix bX BG _ _ _ kf hs=>⟨bX,by simp,?_⟩⟩;simp only[bL,AG3,LN,ADS]at hs;simp_all
 |s::p,d,r,h,rows,F,q,ys,ho,hp,hg,hd=>by
  obtain⟨d,rfl⟩:∃n,d=n+1:=⟨d-1,by omega⟩;simp only[BU]at hp;obtain⟨hi,LW,hp⟩:=hp;simp only[DK]at hg;obtain⟨a,len,cap,rfl⟩:∃a len cap,h= .slice a len cap:=by
   have:=ho;simp only[Ow]at this;grind
  split at hg
  case h_2=>cases hg
  rename_i q' x' XY;rw[XY]at hp;obtain⟨b,o,arr,ty,fr,cs,G,R,rfl,hb,hu,hbd,c1,c2,c3,cW,hback⟩:=gz ho hi;obtain⟨v,A1,A2,k1,k2,k3,k4⟩:=Wu c3 XY;obtain⟨h',F1,F2,m1,m2,m3,m4⟩:=YF k2 hp hg (by simp_all);have nm:d+1-(s::p).length=d-p.length:=by simp
  refine⟨h',F1,F2++A2++(b::R),?_,by simp_all,?_,?_⟩
  ·simp only[Ex]
   rw[LW,c2 _ _ k1];omega
  ·grind
  ·intro w' S' ix bX BG hS gV hF2 kf Ul
   rw[nm]at kf;simp only[bL,XY]at Ul;simp only[ADc,ADV]at Ul;obtain⟨x2,hx2,Uh,hrow,rfl⟩:=Ul;obtain⟨B1,p1,p2⟩:=m4 w' S' ix bX x2 hS gV (fun c hc=>hF2 c (by simp[hc])) kf hx2;obtain⟨B2,p3,p4⟩:=k4 w' S' v x2 B1 Uh hS gV (fun c hc=>hF2 c (by simp[hc])) p2 hrow;have vd:cs.set s.j v=cs:=by
    apply AGj;grind
   rw[vd]at p4;have wB:=hF2 b (by simp);obtain⟨F',p5,p6⟩:=hback w' S' arr cs Uh B2 hS gV (fun c hc=>hF2 c (by simp[hc])) (wB.trans hb) rfl (fun _ _=>rfl) c1 (c2.of_block wB) p4;grind
end Go.Fw
end
section
namespace Go.Fw
def OR(E:Env)(w:World)(vw:List Bx):Option XV→Option Value→Prop
 |none,none=>True
 |some x,some v=>XR E w vw x v
 |_,_=>False
section
variable{Y:Type} {P:Program} {T:FI} (hT:Cq P T) {E:Env} {w:World} {vw:List Bx}
theorem run_sliceBound{κ:IntKind}{i:Int}{y:Nat}{code:BoundsCode}(h0:0≤i)(h1:i≤(y:Int)):(Instr.sliceBound (.int κ i) y code).run P w= .ok i.toNat w:=by
 simp[Instr.sliceBound,asIntOf,h0,h1]
theorem Ng{len cap:Nat}(hc:len≤cap){lo hi:Option XV}{k:Nat→Nat→Option Y}{y:Y}(e:Im len lo hi k=some y){lv hv:Option Value}
  (hl:OR E w vw lo lv) (hh:OR E w vw hi hv) (b:Bool):∃l h,k l h=some y∧l≤h∧h≤len∧(Instr.sliceBounds b len cap lv hv none).run P w= .ok (l,h,cap) w:=by
 unfold Im at e;dsimp only at e;split at e
 case h_2=>cases e
 rename_i l h el eh;split at e
 case isFalse=>cases e
 rename_i hb;obtain⟨b1,b2,b3⟩:=hb;refine⟨l.toNat,h.toNat,e,by omega,by omega,?_⟩;cases hi with
 |none=>cases hv with
  |some _=>exact hh.elim
  |none=>
   simp only[ADS]at eh;subst eh;cases lo with
   |none=>cases lv with
    |some _=>exact hl.elim
    |none=>
     simp only[ADS]at el;subst el;rfl
   |some x=>cases lv with
    |none=>exact hl.elim
    |some v=>
     obtain⟨κ,rfl⟩:=EX (E:=E) (w:=w) (vw:=vw) el hl;simp[Instr.sliceBounds,run_sliceBound (P:=P) (w:=w) (κ:=κ) (i:=l) (y:=len) b1 (by omega)]
 |some x=>cases hv with
  |none=>exact hh.elim
  |some v=>
   obtain⟨κ,rfl⟩:=EX (E:=E) (w:=w) (vw:=vw) eh hh;have e1:=fun code=>run_sliceBound (P:=P) (w:=w) (κ:=κ) (i:=h) (y:=cap) (code:=code) (by omega) (by omega)
   cases lo with
   |none=>cases lv with
    |some _=>exact hl.elim
    |none=>
     simp only[ADS]at el;subst el;simp[Instr.sliceBounds,e1]
   |some x=>cases lv with
    |none=>exact hl.elim
    |some v=>
     obtain⟨κ',rfl⟩:=EX (E:=E) (w:=w) (vw:=vw) el hl;have e2:=fun code=>run_sliceBound (P:=P) (w:=w) (κ:=κ') (i:=l) (y:=h.toNat) (code:=code) b1 (by omega)
     simp[Instr.sliceBounds,e1,e2]
theorem eV(s:List UInt8)(l h:Nat):(⟨s.toArray⟩:ByteArray).extract l h=⟨((s.drop l).take (h-l)).toArray⟩:=by
 apply ByteArray.ext;simp[List.extract_eq_take_drop]
include hT
theorem YP{σ:St}{Fs:List AAF}(hB:Hy E w σ.bx σ.bx Fs)(st:∀c,E.S c→E.T c){t:Nat}{x:XV}{lo hi:Option XV}{k:K Y}{y:Y}(e:Zw T t σ x lo hi k=some y)
  {v:Value} {lv hv:Option Value} (hx:XR E w σ.bx x v) (hl:OR E w σ.bx lo lv) (hh:OR E w σ.bx hi hv):
  ∃z val,k z σ=some y∧(Instr.sliceAt t v lv hv none).run P w= .ok val w∧XR E w σ.bx z val:=by
 unfold Zw at e;split at e
 ·rename_i s
  split at e
  case isFalse=>cases e
  rename_i nw;have hu:=Ri hT nw;have Vs:=RW (E:=E) (w:=w) (vw:=σ.bx) hx;subst Vs;obtain⟨l,h,ek,h1,h2,hr⟩:=Ng (P:=P) (cap:=s.length) (AF2 _) e hl hh false;refine⟨_,.string ⟨((s.drop l).take (h-l)).toArray⟩,ek,?_,VR.str (E:=E) (vw:=σ.bx) _⟩;have hs:(⟨s.toArray⟩:ByteArray).size=s.length:=by rfl
  simp[Instr.sliceAt,Ai hu,Instr.slice,hs,hr,eV]
 ·rename_i s r rows
  split at e
  case isFalse=>cases e
  rename_i WQ;obtain⟨el,ti,hu,Ql,hs,_⟩:=Ik hT WQ;have LW:=Cq.sizeOf hT Ql w
  change VR E w σ.bx (.sl s r rows) v at hx
  have wO:=hx;simp only[VR,Rd]at wO;obtain⟨a,cap,Vs,hle,_⟩:=wO;simp only[AFW,AGN]at Vs;subst Vs;obtain⟨l,h,ek,h1,h2,hr⟩:=Ng (P:=P) hle e hl hh true;refine⟨_,Pp r.n l (h-l) a cap,ek,?_,?_⟩
  ·simp[Instr.sliceAt,Ai hu,Instr.slice,hr,LW,hs,Pp]
  grind[XR,VR,lZ]
 ·rename_i b p
  split at e
  case h_2=>cases e
  rename_i q hq;split at e
  case isFalse=>cases e
  rename_i WQ;obtain⟨el,ti,hu,Ql,hs,_⟩:=Ik hT WQ;have LW:=Cq.sizeOf hT Ql w
  change VR E w σ.bx (.ref b p) v at hx
  obtain⟨a,cap,rfl,hle,_⟩:=lg hB st hx hq;obtain⟨l,h,ek,h1,h2,hr⟩:=Ng (P:=P) hle e hl hh true;refine⟨_,Pp q.1.n l (h-l) a cap,ek,?_,?_⟩
  ·simp[Instr.sliceAt,Ai hu,Instr.slice,hr,LW,hs,Pp]
  ·simp only[Hu]at hq
   obtain⟨_,hx⟩:=hx;refine⟨by rfl,?_⟩;grind
 simp_all
omit hT in
theorem Uw{f:Nat→Option AV}:∀{n j:Nat} {l:List AV},V3 f j n=some l→l.length=n∧ ∀(i:Nat) x,l[i]? =some x→f (j+i)=some x
 |0,j,l,e=>by simp only[V3,ADS]at e;subst e;simp
 |n+1,j,l,e=>by
  simp only[V3,ADc,ADV]at e;obtain⟨x,hx,l',hl,rfl⟩:=e;obtain⟨h1,h2⟩:=Uw hl;refine⟨by simp[h1],fun i z hz=> ?_⟩;cases i with
  |zero=>simp at hz;subst hz;exact hx
  |succ i=>
   have:=h2 i z (by simpa using hz)
   rwa [show j+1+i=j+(i+1)by omega]at this
omit hT in
theorem RM{B:Nat→Prop}{t:Ty}{x:t.D}{v:Value}(h:Rd w B t [v] x)(hs:t.scalar=true):VR E w vw (.v t x) v:=by
 refine⟨hs,?_⟩;cases t<;>first
  |(simpa only[Rd]using h)
  |(simp[Ty.scalar]at hs)
omit hT in
theorem nc{s:Bool}{t:Ty}{x:t.D}{v:Value}(h:Rd w (if s then E.S else E.T) t [v] x):VR E w vw (lQ s ⟨t,x⟩) v:=by
 cases t with
 |sl r=>simp only[lQ,VR];exact h
 |int k=>exact RM h rfl
 |bool=>exact RM h rfl
 |str=>exact RM h rfl
 |unit=>trivial
 |cons c r=>trivial
omit hT in
theorem aH{s:Y_}:∀{p:List Y_} {r:Ty} {rows:List r.D} {q:Ty} {ys:List q.D} {t:Ty} {x:List t.D},BU r rows p→DK r rows p=some ⟨q,ys⟩→s.i<ys.length→s.sz=q.n→
  Af q s.j (rowAt q ys s.i)=some ⟨.sl t,x⟩→BU r rows (p++[s])∧DK r rows (p++[s])=some ⟨t,x⟩
 |[],r,rows,q,ys,t,x,_,hg,hi,hs,hc=>by
  simp only[DK,ADS,AEY]at hg;obtain⟨rfl,e⟩:=hg;obtain rfl:=AFq e;refine⟨?_,?_⟩
  ·simp only[AFO,BU,hc]
   exact⟨hi,hs,trivial⟩
  ·simp only[AFO,DK,hc]
 |s'::p,r,rows,q,ys,t,x,hp,hg,hi,hs,hc=>by
  simp only[BU]at hp;obtain⟨h1,h2,hp⟩:=hp;simp only[DK]at hg;split at hg
  ·rename_i q' x' XY
   rw[XY]at hp;obtain⟨a,b⟩:=aH hp hg hi hs hc;refine⟨?_,?_⟩
   ·simp only[AFI,BU,XY]
    exact⟨h1,h2,a⟩
   ·simp only[AFI,DK,XY]
    exact b
  ·cases hg
omit hT in
theorem dm{s:Y_}:∀{p:List Y_} {h:Value} {b o len cap:Nat} {v:Value},Ex w h p=some (.slice (some ⟨b,o,none⟩) len cap)→w.cell? ⟨b,o+s.i*s.sz+s.j,none⟩=some v→
  Ex w h (p++[s])=some v
 |[],h,b,o,len,cap,v,e,hc=>by
  rw[Bc]at e;cases e;simp[Ex,hc,Bc]
 |s'::p,h,b,o,len,cap,v,e,hc=>by
  cases h with
  |slice a l c=>
   cases a with
   |none=>simp[Ex]at e
   |some a=>
    simp only[Ex]at e;split at e
    ·rename_i h' hh
     simp only[AFI,Ex,hh];exact dm e hc
    ·cases e
  |_=>simp[Ex]at e
omit hT in
theorem Gl{bx:List Bx}{Fs:List AAF}(hB:Hy E w bx bx Fs)(st:∀c,E.S c→E.T c){x z:AV}{i:Nat}(e:E5 bx x i=some z){v:Value}(hx:VR E w bx x v):
  ∃b o u,v= .pointer (some ⟨b,o,none⟩)∧w.cell? ⟨b,o+i,none⟩=some u∧VR E w bx z u:=by
 cases x with
 |EN b j=>
  simp only[E5]at e;split at e
  ·rename_i cs hb
   obtain⟨F,⟨_,arr,ty,fr,ha,hu,hv⟩,_⟩:=hB.get hb;obtain⟨u,h1,h2⟩:=A5.get hv e;refine⟨_,_,u,hx.2,?_,h2⟩;simp only[World.cell?,ha,AGS,AFZ,AFg];simpa using h1
  ·cases e
 |E7 b p r sz j=>
  simp only[E5]at e;split at e
  ·rename_i d q rows hb
   split at e
   case isFalse=>cases e
   rename_i hd;simp only[ADc]at e;obtain⟨⟨q',ix⟩,hg,e⟩:=e;split at e
   case isFalse=>cases e
   rename_i LW;simp only[ADV]at e;obtain⟨⟨t,y⟩,hc,rfl⟩:=e;simp only[VR,hb]at hx;obtain⟨_,hp,q1,ys,bb,o,len,cap,g1,g2,g3,rfl⟩:=hx;rw[hg]at g1;simp only[ADS,AEY]at g1;obtain⟨rfl,g1⟩:=g1;obtain rfl:=AFq g1;dsimp only at LW hc;obtain⟨F,⟨hd1,ho⟩,hF⟩:=hB.get hb;have Uu:=V7 (Cf.refl bx) hB st hb hp hg g3;have AH_:=Uu;simp only[Rd]at Uu;obtain⟨a',cap',ee,hle,Uu⟩:=Uu;simp only[AFW,Value.slice.injEq,AGN]at ee;obtain⟨rfl,rfl,rfl⟩:=ee;rcases Uu with Uu|⟨b1,o1,e7,_,Uu⟩
   ·omega
   ·cases e7
    obtain⟨cs,c1,c2,c3⟩:=Uu r _ (LJ g2);obtain⟨u,hu,hur⟩:=Wh c3 hc;have Uj:=c2 _ _ hu;rw[←LW]at Uj;refine⟨_,_,u,rfl,by rw[Nat.add_assoc];exact Uj,?_⟩;cases t with
    |sl t' =>
     simp only[mV];split
     ·rename_i hdd
      obtain⟨h',F1,F2,m1,m2,_,_⟩:=YF ho hp hg hd;rw[g3]at m1;cases m1;rw[show d-p.length=0+1 by omega]at m2;obtain⟨b2,o2,arr,ty,fr,cs2,G,R,e2,_,_,_,_,k2,k3,_,_⟩:=gz m2 g2;cases e2;obtain⟨v2,A1,A2,z1,z2,_,_⟩:=Wu k3 hc;have oP:=k2 _ _ z1;rw[←LW,Uj]at oP;cases oP;simp only[Ow]at z2;simp only[VR];exact z2.1
     ·simp only[VR,hb]
      have:=aH (s:=⟨r,sz,j+i⟩) hp hg g2 LW hc;simp only[Rd]at hur;obtain⟨a2,cap2,e2,_⟩:=hur;simp only[AFW,AGN]at e2;refine⟨by rw[e2];rfl,this.1,⟨_,this.2⟩,dm g3 Uj⟩
    |int k=>exact RM hur rfl
    |bool=>exact RM hur rfl
    |str=>exact RM hur rfl
    |unit=>trivial
    |cons c r=>trivial
  ·cases e
 |Jj s r y j=>
  simp only[E5,ADV]at e;obtain⟨⟨t,y'⟩,hc,rfl⟩:=e;obtain⟨bb,o,cs,rfl,h2,h3,h4,h5⟩:=hx;obtain⟨u,hu,hur⟩:=Wh h5 hc;refine⟨_,_,u,rfl,by rw[Nat.add_assoc];exact h4 _ _ hu,nc hur⟩
 |_=>simp[E5]at e
omit hT in
theorem V6{bx:List Bx}{Fs:List AAF}(hB:Hy E w bx bx Fs)(st:∀c,E.S c→E.T c){x:AV}{v:Value}(hx:VR E w bx x v){b o:Nat}(hv:v= .pointer (some ⟨b,o,none⟩)):
  ∀{l:List AV} {j:Nat},(∀(i:Nat) z,l[i]? =some z→E5 bx x (j+i)=some z)→ ∃cs:List Value,cs.length=l.length∧BA w b (o+j) cs∧X7 E w bx l cs
 |[],_,_=>⟨[],rfl,fun _ _ h=>by simp at h,trivial⟩
 |z::l,j,h=>by
  obtain⟨b',o',u,e1,e2,e3⟩:=Gl hB st (h 0 z rfl) hx;subst hv;simp only[Value.pointer.injEq,ADS,Addr.mk.injEq,AGN]at e1;obtain⟨rfl,rfl⟩:=e1;obtain⟨cs,c1,c2,c3⟩:=V6 hB st hx rfl (l:=l) (j:=j+1) (fun i y hy=>by
   have:=h (i+1) y (by simpa using hy)
   rwa [show j+1+i=j+(i+1)by omega])
  refine⟨u::cs,by simp[c1],fun i y hy=> ?_,e3,c3⟩;cases i with
  |zero=>simp at hy;subst hy;exact e2
  |succ i=>
   have:=c2 i y (by simpa using hy)
   rwa [show o+(j+1)+i=o+j+(i+1)by omega]at this
theorem jq{σ:St}{Fs:List AAF}(hB:Hy E w σ.bx σ.bx Fs)(st:∀c,E.S c→E.T c){t:Nat}{x z:XV}(e:Z5 T t σ x=some z){v:Value}(hx:XR E w σ.bx x v):
  ∃u,(Instr.loadAt t v).run P w= .ok u w∧XR E w σ.bx z u:=by
 unfold Z5 at e;split at e
 case h_2=>cases e
 rename_i x ti Ql;split at e
 case isTrue=>cases e
 rename_i LW;have YA:=Cq.isAgg hT Ql w;split at e
 ·rename_i ha
  rw[ha]at YA;simp only[ADV]at e;obtain⟨l,hl,rfl⟩:=e;obtain⟨h1,h2⟩:=Uw hl;have h0:0<l.length:=by omega
  obtain⟨b,o,u,hv,_,_⟩:=Gl hB st (h2 0 _ (ADU h0)) hx;obtain⟨cs,c1,c2,c3⟩:=V6 hB st hx hv (l:=l) (j:=0) (fun i y hy=>by simp_all);subst hv;have YO:=(hT t ti Ql).oN;cases hd:ti.desc with
  |st fs=>
   rw[hd]at YO;obtain⟨fields,hu,_⟩:=YO;refine⟨.agg cs.toArray,run_loadAt_mid w b o t cs _ (by grind[BA,World.rangeAt]) hu rfl ?_,cs.toArray,rfl,by omega⟩;grind[Cq.size]
  |_=>grind[TD.agg]
 ·rename_i ha
  simp only[AGc]at ha;rw[ha]at YA;simp only[ADV]at e;obtain⟨y,hy,rfl⟩:=e;obtain⟨b,o,u,hv,hc,hr⟩:=Gl hB st hy hx;subst hv;refine⟨u,?_,hr⟩;simp only[AGo]at hc;simp[Instr.loadAt,Instr.sureAddr,loadVar,YA,hc]
end
end Go.Fw
end
section
namespace Go.Fw
theorem cJ{w:World}{S:Nat→Prop}{d:Nat}{q:Ty}:Ow w S d (.sl q) [.slice none 0 0] [] []:=by
 cases d with
 |zero=>simp only[Ow,Rd];simp_all
 |succ d=>simp only[Ow];simp_all
theorem pX{w:World}{S:Nat→Prop}{d:Nat}{r:Ty}{a:Option Addr}{len cap:Nat}{ys:List r.D}{F:AAF}(h:Ow w S (d+1) (.sl r) [.slice a len cap] ys F){off n:Nat}(hn:off+n≤ys.length):
  ∃F1 F2,F.Perm (F1++F2)∧Ow w S (d+1) (.sl r) [Pp r.n off n a cap] ((ys.drop off).take n) F1:=by
 simp only[Ow]at h⊢;obtain⟨a',cap',e,hc,h⟩:=h;simp only[AFW,Value.slice.injEq,AGN]at e;obtain⟨rfl,rfl,rfl⟩:=e;have hl:((ys.drop off).take n).length=n:=by grind
 by_cases h0:cap=off
 ·subst h0
  refine⟨[],F,by simp,a,0,by simp[Pp,hl],by omega,.inl ⟨rfl,rfl⟩⟩
 ·rcases h with⟨h,rfl⟩|⟨b,o,arr,ty,fr,Fs,rfl,hb,LW,hu,rfl,hFl,hr⟩
  ·omega
  ·have p:Fs.flatten.Perm (((Fs.drop off).take n).flatten++((Fs.take off).flatten++(Fs.drop (off+n)).flatten)):=by
    grind[List.drop_drop,List.take_append_drop,List.flatten_append,List.append_assoc,List.Perm.append_right,List.perm_append_comm]
   refine⟨b::((Fs.drop off).take n).flatten,(Fs.take off).flatten++(Fs.drop (off+n)).flatten,List.Perm.cons b p,some ⟨b,o+off*r.n,none⟩,cap-off,?_,by omega,.inr ⟨b,o+off*r.n,arr,ty,fr,_,rfl,hb,?_,hu,rfl,?_,?_⟩⟩
   ·grind[Pp,Addr.add_eq]
   ·have:off*r.n+(cap-off)*r.n=cap*r.n:=by rw[←Nat.add_mul];grind
    omega
   all_goals grind
theorem Le.keep{E E':Env}(h:Le E E'){w:World}{vw:List Bx}(st:∀c,E.S c→E.T c):M8 E w vw E' w vw:=
 ⟨AF2 _,fun b _=>by rw[h.Du],h.T,h.S,st,fun _ _=>rfl,fun b d r rows _ e=>⟨d,rows,e,fun p hp q ys hg=>⟨hp,⟨ys,hg,rfl⟩,fun h' hh=>by rw[h.EK];omega⟩⟩⟩
theorem BR.share{E:Env}{w:World}{vw bx:List Bx}{F W G:AAF}(h:BR E w vw bx (F++W++G)):
  let E':Env:={ E with S:=fun c=>E.S c∨c∈W,T:=fun c=>E.T c∨c∈W }
  Le E E'∧BR E' w vw bx (F++G):=by
 intro E';have st:=h.st;have hle:Le E E':=⟨rfl,rfl,fun c hc=> .inl hc,fun c hc=> .inl hc,fun c hc=>hc.elim .inl fun h' => .inr (.inr h'),fun c hc=>hc.elim .inl fun h' => .inr (h.oX c (by simp[h']))⟩;refine⟨hle,?_⟩;obtain⟨Fs,⟨h1,h2⟩,h3⟩:=h;refine⟨Fs,⟨h1,fun k B F' hk hF=> ?_⟩,?_⟩
 ·have:=h2 k B F' hk hF
  cases B with
  |mem cs=>
   obtain⟨rfl,arr,ty,fr,a1,a2,a3⟩:=this;exact⟨rfl,arr,ty,fr,a1,a2,a3.imp fun _ _ hv=>C2 (hle.keep st) hv⟩
  |sl d r rows=>exact⟨this.1,CH hle.S (fun _ _=>rfl) (fun _ _=>rfl) this.2⟩
  |dead=>exact this
 ·have h4:Sep E w (W++(Fs.flatten++(F++G))):=h3.perm (by
   grind)
  refine⟨(AEO.1 h4.nodup).2.1,fun c hc ht=> ?_,fun c hc=>h4.lt c (by simp_all),fun c hc=>hc.imp (st c) id,fun c hc=>hc.elim (h4.W3 c) fun h' =>h4.lt c (by simp[h'])⟩;rcases ht with ht|ht
  ·exact h4.free c (AFt.2 (.inr hc)) ht
  ·exact(AEO.1 h4.nodup).2.2 c ht c hc rfl
structure DR (E:Env) (w:World) (vw bx:List Bx) (G:AAF) (E':Env) (K6:List Bx) (F:AAF):Prop where
 le:Le E E'
 len:K6.length=bx.length
 within:∀(b:Nat) (B:Bx),K6[b]? =some B→B= .dead∨bx[b]? =some B
 boxes:BR E' w vw K6 (F++G)
theorem DR.refl{E:Env}{w:World}{vw bx:List Bx}{G:AAF}(h:BR E w vw bx G):DR E w vw bx G E bx []:=
 ⟨Le.refl E,rfl,fun _ _ h=> .inr h,h⟩
theorem Cf.dr{E E':Env}{w:World}{vw bx K6:List Bx}{G F:AAF}(h:Cf bx vw)(k:DR E w vw bx G E' K6 F):Cf K6 vw:=fun b B e=>
 (k.within b B e).elim .inl (h b B)
theorem Uy{E:Env}{w:World}{vw bx:List Bx}{G:AAF}(h:BR E w vw bx G)(hw:Cf bx vw){d:Nat}(hd:1≤d){t:Ty}{x:AV}{v:Value}(hv:VR E w vw x v){y:t.D}{K6:List Bx}{d':Nat}
  (e:WJ d t x bx=some (y,K6,d')):1≤d'∧d'≤d∧ ∃E' F,DR E w vw bx G E' K6 F∧Ow w E'.S (d'-1) t [v] y F:=by
 unfold WJ at e;split at e
 ·rename_i u z
  simp only[ADV,AFu]at e;obtain⟨z',e1,rfl,rfl,rfl⟩:=e;obtain⟨e2,e3⟩:=DX e1;subst e2;subst e3;refine⟨hd,AF2 _,E,[],DR.refl h,?_⟩;obtain⟨hs,hr⟩:=hv;cases u<;>simp_all[Ty.scalar,Ow,Rd]
 ·split at e
  ·simp only[ADS,AFu]at e
   obtain⟨rfl,rfl,rfl⟩:=e;simp only[VR]at hv;subst hv;exact⟨hd,AF2 _,E,[],DR.refl h,cJ⟩
  simp_all
 ·rename_i r z
  split at e
  ·rename_i q
   simp only[ADV,AFu]at e;obtain⟨z',e1,rfl,rfl,rfl⟩:=e;obtain⟨e2,e3⟩:=DX e1;subst e2;subst e3;refine⟨AF2 _,hd,E,[],DR.refl h,?_⟩;simp only[VR]at hv;simp only[Nat.sub_self,Ow];simp_all
  simp_all
 ·rename_i b
  split at e
  case h_2=>cases e
  rename_i q;split at e
  case h_2=>cases e
  rename_i db r z hb;simp only[ADV,AFu]at e;obtain⟨z',e1,rfl,rfl,rfl⟩:=e;obtain⟨e2,e3⟩:=DX e1;subst e2;subst e3;obtain⟨F0,⟨hd1,ho⟩,hB⟩:=h.take hb;have hvv:v=E.EK b:=by
   grind[VR,Ti,Bc]
  subst hvv;obtain⟨F1,W,hp,kf⟩:=FJ (d:=min d (db+1)-1) (by omega) ho;have Nt:=hB.perm (AGb G hp);obtain⟨hle,Sr⟩:=Nt.share;refine⟨by omega,Nat.min_le_left _ _,_,F1,⟨hle,by simp,fun k B hk=> ?_,Sr⟩,kf⟩;grind
 ·rename_i b off n
  split at e
  case h_2=>cases e
  rename_i q;split at e
  case h_2=>cases e
  rename_i db r z hb;simp only[ADV,AFu]at e;obtain⟨z',e1,rfl,rfl,rfl⟩:=e;obtain⟨e2,e3⟩:=DX e1;subst e2;subst e3;obtain⟨F0,⟨hd1,ho⟩,hB⟩:=h.take hb;simp only[VR,Ti hw hb,Bc]at hv;obtain⟨_,_,q',ys,a,len,cap,hg,hn,hh,rfl⟩:=hv;simp only[DK,ADS,AEY]at hg;obtain⟨rfl,hg⟩:=hg;obtain rfl:=AFq hg;simp only[ADS]at hh;rw[hh]at ho;obtain⟨db,rfl⟩:∃m,db=m+1:=⟨db-1,by omega⟩;obtain⟨A1,A2,hp0,ho0⟩:=pX ho hn;obtain⟨F1,W,hp,kf⟩:=FJ (d:=min d (db+1+1)-1) (by omega) ho0;have hB1:BR E w vw (bx.set b .dead) (A1++G):=by
   refine BR.drop (G':=A2) (hB.perm ?_);grind
  have Nt:=hB1.perm (AGb G hp);obtain⟨hle,Sr⟩:=Nt.share;refine⟨by omega,Nat.min_le_left _ _,_,F1,⟨hle,by simp,fun k B hk=> ?_,Sr⟩,kf⟩;grind
 simp_all
theorem UD{w:World}{vw:List Bx}:∀{r:Ty} {E:Env} {bx:List Bx} {G:AAF} {d:Nat} {l:List AV} {vs:List Value} {y:r.D} {K6:List Bx} {d':Nat},BR E w vw bx G→Cf bx vw→1≤d→
  X7 E w vw l vs→cellsIn d r l bx=some (y,K6,d')→1≤d'∧d'≤d∧ ∃E' F,DR E w vw bx G E' K6 F∧Ow w E'.S (d'-1) r vs y F
 | .unit,E,bx,G,d,[],[],y,K6,d',h,hw,hd,_,e=>by
  simp only[cellsIn,ADS,AFu]at e;obtain⟨_,rfl,rfl⟩:=e;exact⟨hd,AF2 _,E,[],DR.refl h,by simp only[Ow];simp_all⟩
 | .cons c r,E,bx,G,d,x::l,v::vs,y,K6,d',h,hw,hd,hv,e=>by
  simp only[cellsIn,ADc,ADV,AFu]at e;obtain⟨⟨y1,ZA,d1⟩,e1,⟨y2,Uv,d2⟩,e2,rfl,rfl,rfl⟩:=e;dsimp only at e2⊢;obtain⟨a1,a2,E1,F1,k1,o1⟩:=Uy h hw hd hv.1 e1;have i7:=k1.le.keep (w:=w) (vw:=vw) h.st;obtain⟨b1,b2,E2,F2,k2,o2⟩:=UD (G:=F1++G) k1.boxes (hw.dr k1) a1 (hv.2.imp fun _ _ h=>C2 i7 h) e2;obtain⟨A,W,hp,o1'⟩:=FJ (d:=d'-1) (by omega) o1;have hB:=k2.boxes.perm (G':=(F2++A)++W++G) (by
   grind)
  obtain⟨hle,Sr⟩:=hB.share;refine⟨b1,AGG b2 a2,_,A++F2,⟨(k1.le.trans k2.le).trans hle,k2.len.trans k1.len,fun b B hb=>(k2.within b B hb).elim .inl (k1.within b B),Sr.perm (AGb _ List.perm_append_comm)⟩,?_⟩;simp only[Ow];refine⟨v,vs,A,F2,rfl,rfl,?_,?_⟩
  ·refine CH (S:=fun b=>E1.S b∨b∈W) ?_ (fun _ _=>rfl) (fun _ _=>rfl) o1'
   intro c hc;exact hc.elim (fun h=> .inl (k2.le.S c h)) .inr
  ·refine CH (S:=E2.S) ?_ (fun _ _=>rfl) (fun _ _=>rfl) o2
   simp_all
 | .unit,_,_,_,_,_::_,_,_,_,_,_,_,_,_,e=>by simp[cellsIn]at e
 | .unit,_,_,_,_,[],_::_,_,_,_,_,_,_,hv,_=>hv.elim
 | .cons _ _,_,_,_,_,[],_,_,_,_,_,_,_,_,e=>by simp[cellsIn]at e
 | .cons _ _,_,_,_,_,_::_,[],_,_,_,_,_,_,hv,_=>hv.elim
 | .int _,_,_,_,_,_,_,_,_,_,_,_,_,_,e=>by simp[cellsIn]at e
 | .bool,_,_,_,_,_,_,_,_,_,_,_,_,_,e=>by simp[cellsIn]at e
 | .str,_,_,_,_,_,_,_,_,_,_,_,_,_,e=>by simp[cellsIn]at e
 | .sl _,_,_,_,_,_,_,_,_,_,_,_,_,_,e=>by simp[cellsIn]at e
theorem ib{E:Env}{w:World}{vw:List Bx}{x:AV}{v:Value}(h:VR E w vw x v)(hk:x.known=true):v.oneCell' =true∧v.cells= #[v]:=by
 have aux:∀{v:Value},isSlice v=true→v.oneCell' =true∧v.cells= #[v]:=by intro v h;cases v<;>simp_all[isSlice,Value.oneCell',Value.cells]
 have AFQ:∀{v:Value},Vm v=true→v.oneCell' =true∧v.cells= #[v]:=by intro v h;cases v<;>simp_all[Vm,Value.oneCell',Value.cells]
 cases x with
 |v t y=>
  obtain⟨hs,hr⟩:=h;cases t<;>simp[Ty.scalar]at hs<;>simp only[Rd,AFW,AGN]at hr<;>subst hr<;>exact⟨rfl,rfl⟩
 |sl s r y=>
  simp only[VR,Rd]at h;obtain⟨a,cap,h,_⟩:=h;simp only[AFW,AGN]at h;subst h;exact⟨rfl,rfl⟩
 |nil=>simp only[VR]at h;subst h;exact⟨rfl,rfl⟩
 |ref b p=>exact aux h.1
 |win b p off n=>exact aux h.1
 |EN b j=>rw[h.2];exact⟨rfl,rfl⟩
 |E7 b p i sz j=>exact AFQ h.1
 |Jj s r y j=>obtain⟨bb,o,cs,rfl,_⟩:=h;exact⟨rfl,rfl⟩
 |fn f Fj=>rw[h.2];exact⟨rfl,rfl⟩
 |gU f rows=>obtain⟨ps,rfl,_⟩:=h;exact⟨rfl,rfl⟩
 |l5=>simp only[VR]at h;subst h;exact⟨rfl,rfl⟩
 |undef=>simp[AV.known]at hk
theorem l9{E:Env}{w:World}{vw:List Bx}:∀{l:List AV} {vs:List Value},X7 E w vw l vs→l.all AV.known=true→ ∀v∈vs,v.oneCell' =true
 |[],[],_,_=>by simp
 |x::l,v::vs,h,hk=>by
  simp only[AGV,AEE]at hk;intro u hu;rcases AGO.1 hu with rfl|hu
  ·exact(ib h.1 hk.1).1
  ·exact l9 h.2 hk.2 u hu
theorem df{E:Env}{w:World}{vw:List Bx}{x:XV}{v:Value}(h:XR E w vw x v)(hk:x.cells.all AV.known=true)(hn:x.cells≠[]):X7 E w vw x.cells v.cells.toList∧ ∀u∈v.cells.toList,u.oneCell' =true:=by
 cases x with
 |c x=>
  have h':VR E w vw x v:=h;obtain⟨h1,h2⟩:=ib h' (by grind[XV.cells]);rw[h2];exact⟨⟨h',trivial⟩,by simp_all⟩
 |agg l=>
  obtain⟨vs,rfl,RQ⟩:=h;exact⟨RQ,l9 RQ hk⟩
 |LI l=>simp[XV.cells]at hn
theorem jU{w:World}{vw:List Bx}{r:Ty}{E:Env}{bx:List Bx}{G:AAF}{d:Nat}{x:XV}{v:Value}{y:r.D}{K6:List Bx}{d':Nat}(h:BR E w vw bx G)(hw:Cf bx vw)(hd:1≤d)
  (hv:XR E w vw x v) (e:pA d r x bx=some (y,K6,d')):1≤d'∧d'≤d∧ ∃E' F,DR E w vw bx G E' K6 F∧Ow w E'.S (d'-1) r v.cells.toList y F:=by
 unfold pA at e;split at e
 ·rename_i l
  obtain⟨vs,rfl,RQ⟩:=hv;exact UD h hw hd RQ e
 ·rename_i x
  have Vs:VR E w vw x v:=hv;have hk:x.known=true:=by grind[AV.known,WJ]
  rw[(ib Vs hk).2];exact Uy h hw hd Vs e
 simp_all
end Go.Fw
end
section
namespace Go.Fw
def Env.VA(E:Env)(n:Nat)(h:Value):Env:={ E with EK:=fun k=>if k=n then h else E.EK k }
def Env.Wf(E:Env)(n b:Nat):Env:={ E with Du:=fun k=>if k=n then b else E.Du k }
theorem Xn{E E1 E':Env}{w w':World}{vw ZA K6:List Bx}{F:AAF}(k:DR E w vw vw [] E1 ZA F)(st:∀c,E.S c→E.T c)(hlen:vw.length≤K6.length)
  (iw:∀b B,b<vw.length→K6[b]? =some B→ZA[b]? =some B) (qA:∀b,b<vw.length→E'.Du b=E1.Du b) (YR:∀b,b<vw.length→E'.EK b=E1.EK b) (hT:E'.T=E1.T) (hS:E'.S=E1.S)
  (hw:∀c,c<w.heap.size→c∉F→w'.heap[c]? =w.heap[c]?):M8 E w vw E' w' K6:=by
 have hB:=k.boxes;obtain⟨Fs,⟨h1,h2⟩,h3⟩:=hB;simp only[AFp]at h3;have nu:∀c,E1.T c→w'.heap[c]? =w.heap[c]?:=fun c hc=>hw c (h3.W3 c hc) fun hf=>h3.free c (by simp[hf]) hc
 refine⟨hlen,fun b hb=>by rw[qA b hb,k.le.Du],fun c hc=>by rw[hT];exact k.le.T c hc,fun c hc=>by rw[hS];exact k.le.S c hc,st,fun c hc=>nu c (k.le.T c hc),fun b d r rows hb e=> ?_⟩;have e1:=iw b _ hb e;rcases k.within b _ e1 with e2|e2
 ·cases e2
 ·refine⟨d,rows,e2,fun p hp q ys hg=>⟨hp,⟨ys,hg,rfl⟩,fun h' hh=> ?_⟩⟩
  have hF:Fs[b]? =some (Fs[b]'(by grind)):=ADU _;obtain⟨hd,ho⟩:=h2 b _ _ e1 hF;rw[YR b hb];rw[←k.le.EK]at hh;refine gl ho (fun c hc=>nu c (h3.st c hc)) (fun c hc=> ?_) hp hg hh;have XD:c∈Fs.flatten:=AFz.2 ⟨_,AFB hF,hc⟩;exact hw c (h3.lt c (by simp[XD])) fun hf=>(AEO.1 h3.nodup).2.2 c XD c hf rfl
structure Grown (w w':World):Prop where
 os:w'.os=w.os
 tape:w'.tape=w.tape
 output:w'.output=w.output
 size:w.heap.size≤w'.heap.size
theorem NY{E E1:Env}{σ:St}{a:Act}{w w':World}{ZA:List Bx}{F F':AAF}(h:Rel E σ a w)(k:DR E w σ.bx σ.bx [] E1 ZA F){v:Value}{d:Nat}{r:Ty}{rows:List r.D}(hd:1≤d)
  (ho:Ow w' E1.S d (.sl r) [v] rows F') (hF':∀c∈F',c∈F∨w.heap.size≤c) (nd:F'.Nodup) (RF:∀c∈F',c<w'.heap.size) (hw:∀c,c<w.heap.size→c∉F→w'.heap[c]? =w.heap[c]?) (g:Grown w w'):
  let E':=E1.VA ZA.length v
  Rel E' { σ with bx:=ZA++[.sl d r rows] } a w'∧LV [] E σ.bx w E' (ZA++[.sl d r rows]) w'∧XR E' w' (ZA++[.sl d r rows]) (.c (.ref ZA.length [])) v:=by
 intro E';have st:=h.bx.st;have hn:=k.len;have keep:M8 E w σ.bx E' w' (ZA++[.sl d r rows]):=Xn k st (by simp[hn]) (fun b B hb e=>by
   grind) (fun b _=>rfl) (fun b hb=>by grind[Env.VA]) rfl rfl hw
 have i7:M8 E1 w σ.bx E' w' (ZA++[.sl d r rows]):=by
  have k':DR E1 w σ.bx σ.bx [] E1 ZA F:=⟨Le.refl _,k.len,k.within,k.boxes⟩;exact Xn k' k.boxes.st (by simp[hn]) (fun b B hb e=>by
   grind) (fun b _=>rfl) (fun b hb=>by grind[Env.VA]) rfl rfl hw
 obtain⟨Fs,⟨h1,h2⟩,h3⟩:=k.boxes;simp only[AFp]at h3;have nu:∀c,E1.T c→w'.heap[c]? =w.heap[c]?:=fun c hc=>hw c (h3.W3 c hc) fun hf=>h3.free c (by simp[hf]) hc
 have hF0:∀c∈Fs.flatten,w'.heap[c]? =w.heap[c]?:=fun c hc=>hw c (h3.lt c (by simp[hc])) fun hf=>(AEO.1 h3.nodup).2.2 c hc c hf rfl
 refine⟨⟨h.ID,h.tm.imp fun _ _ hx=>JS keep hx,?_⟩,?_,?_⟩
 ·refine⟨Fs++[F'],⟨by simp[h1],fun n B G hB hG=> ?_⟩,?_⟩
  ·by_cases nJ:n<ZA.length
   ·rw[AFJ nJ]at hB
    rw[AFJ (by omega)]at hG;have:=h2 n B G hB hG;have hGw:∀c∈G,w'.heap[c]? =w.heap[c]?:=fun c hc=>hF0 c (AFz.2 ⟨G,AFB hG,hc⟩)
    cases B with
    |mem cs=>
     obtain⟨rfl,arr,ty,fr,a1,a2,a3⟩:=this;exact⟨rfl,arr,ty,fr,(hGw (E1.Du n) (by simp)).trans a1,a2,a3.imp fun _ _ hv=>C2 i7 hv⟩
    |sl d0 r0 Lj=>
     refine⟨this.1,?_⟩;have e0:E'.EK n=E1.EK n:=by grind[Env.VA]
     rw[e0];exact CH (fun _ hc=>hc) (fun c hc=>nu c (h3.st c hc)) hGw this.2
    |dead=>exact this
   ·have hnn:=(ADa.1 hB).1
    simp at hnn;obtain rfl:n=ZA.length:=by omega
    rw[AFU (by omega)]at hB hG;simp[h1]at hB hG;subst hB hG;refine⟨hd,?_⟩;grind[Env.VA]
  ·simp only[List.flatten_append,AGL,AGU,AFp]
   have nd0:=AEO.1 h3.nodup;refine⟨AEO.2 ⟨nd0.1,nd,fun x hx y hy e=> ?_⟩,fun c hc ht=> ?_,fun c hc=> ?_,h3.st,fun c hc=>AF3 (h3.W3 c hc) g.size⟩
   ·grind
   ·rcases AFt.1 hc with hc|hc
    ·exact h3.free c (by simp[hc]) ht
    ·rcases hF' c hc with h|h
     ·exact h3.free c (by simp[h]) ht
     ·have:=h3.W3 c ht;omega
   ·rcases AFt.1 hc with hc|hc
    ·exact AF3 (h3.lt c (by simp[hc])) g.size
    simp_all
 ·refine⟨⟨k.le.T,k.le.S,k.le.sI,k.le.kJ,fun c hc=>nu c (k.le.T c hc),g.os,g.tape,g.output,g.size⟩,by simp[hn],fun b hb=>⟨by show E1.Du b=_;rw[k.le.Du],?_⟩,fun b hb=> ?_,fun n B B' _ hB Nt mu=> ?_⟩
  ·have:E'.EK b=E1.EK b:=by grind[Env.VA]
   rw[this,k.le.EK]
  ·have hbl:=(ADa.1 hb).1
   rw[AFJ (by omega)];obtain⟨B,hB⟩:∃B,ZA[b]? =some B:=⟨_,ADU (by omega)⟩;rcases k.within b B hB with e|e
   all_goals simp_all
  ·have nJ:=(ADa.1 hB).1
   rw[AFJ (by omega)]at Nt;rcases k.within n B' Nt with e|e
   ·simp_all
   rw[hB]at e;cases e;refine⟨Pl.refl mu,fun c hc=> ?_⟩;have hF:Fs[n]? =some (Fs[n]'(by omega)):=ADU _;have hR:=h2 n B _ Nt hF;have Vy:kH E1 w n B c:=by
    cases B with
    |mem cs=>simp only[kH]at hc⊢;rw[k.le.Du];omega
    |sl d r rows=>simp only[kH]at hc⊢;rw[k.le.EK];omega
    |dead=>exact hc
   rcases Wj hR Vy with hs|hs
   ·exact nu c (h3.st c hs)
   grind[List.mem_flatten,List.mem_of_getElem?]
 ·have e0:E'.EK ZA.length=v:=by simp[E',Env.VA]
  refine⟨?_,?_⟩
  ·have:=S5 ho
   simp only[Rd]at this;obtain⟨_,_,e,_⟩:=this;simp only[AFW,AGN]at e;rw[e];rfl
  ·have:(ZA++[Bx.sl d r rows])[ZA.length]? =some (.sl d r rows):=by simp
   rw[this];exact⟨by simp[BU],⟨_,rfl⟩,by rw[e0,Bc]⟩
theorem dc{E:Env}{σ:St}{a:Act}{w:World}(h:Rel E σ a w){cs:List AV}{arr:Array Value}(ty:TypeId)(hv:X7 E w σ.bx cs arr.toList):
  let E':=E.Wf σ.bx.length w.heap.size
  let w':=w.alloc (.cells arr ty)
  Rel E' (σ.new (.mem cs)) a w'∧LV [] E σ.bx w E' (σ.new (.mem cs)).bx w'∧XR E' w' (σ.new (.mem cs)).bx (.c (.EN σ.bx.length 0)) (.pointer (some ⟨w.heap.size,0,none⟩)):=by
 intro E' w';have st:=h.bx.st;have hw:∀c,c<w.heap.size→c∉([]:AAF)→w'.heap[c]? =w.heap[c]?:=fun c hc _=>by
  show(w.heap.push (.cells arr ty))[c]? =_
  grind
 have hB0:=h.bx;have keep:M8 E w σ.bx E' w' (σ.bx++[.mem cs]):=Xn (DR.refl hB0) st (by simp) (fun b B hb e=>by
   grind) (fun b hb=>by grind[Env.Wf]) (fun b _=>rfl) rfl rfl hw
 obtain⟨Fs,⟨h1,h2⟩,h3⟩:=h.bx;simp only[AFp]at h3;have new:w'.heap[w.heap.size]? =some (.cells arr ty):=by
  show(w.heap.push (.cells arr ty))[w.heap.size]? =_
  simp
 refine⟨⟨h.ID,h.tm.imp fun _ _ hx=>JS keep hx,?_⟩,?_,?_⟩
 ·refine⟨Fs++[[w.heap.size]],⟨by simp[St.new,h1],fun n B G hB hG=> ?_⟩,?_⟩
  ·simp only[St.new]at hB
   by_cases nJ:n<σ.bx.length
   ·rw[AFJ nJ]at hB
    rw[AFJ (by omega)]at hG;have:=h2 n B G hB hG;have hGw:∀c∈G,w'.heap[c]? =w.heap[c]?:=fun c hc=>hw c (h3.lt c (by simp;grind)) (by simp)
    have eb:E'.Du n=E.Du n:=by grind[Env.Wf]
    cases B with
    |mem cs0=>
     obtain⟨rfl,arr0,ty0,fr,a1,a2,a3⟩:=this;refine⟨by rw[eb],arr0,ty0,fr,?_,a2,a3.imp fun _ _ hv=>C2 keep hv⟩;simp_all
    |sl d0 r0 Lj=>exact⟨this.1,CH (fun _ hc=>hc) (fun c hc=>hw c (h3.W3 c (st c hc)) (by simp)) hGw this.2⟩
    |dead=>exact this
   ·have hnn:=(ADa.1 hB).1
    simp at hnn;obtain rfl:n=σ.bx.length:=by omega
    rw[AFU (by omega)]at hB hG;simp[h1]at hB hG;subst hB hG;have eb:E'.Du σ.bx.length=w.heap.size:=by simp[E',Env.Wf]
    refine⟨by rw[eb],arr,ty,(0,0),by simp_all,fun i _ h=>by omega,hv.imp fun _ _ hv=>C2 keep hv⟩
  ·simp only[List.flatten_append,AGL,AGU,AFp]
   refine⟨AEO.2 ⟨h3.nodup,by simp,fun x hx y hy e=> ?_⟩,fun c hc ht=> ?_,fun c hc=> ?_,h3.st,fun c hc=> ?_⟩
   ·subst e
    simp at hy;have:=h3.lt x hx;omega
   ·rcases AFt.1 hc with hc|hc
    ·exact h3.free c hc ht
    ·simp at hc;have:=h3.W3 c ht;omega
   ·rcases AFt.1 hc with hc|hc
    ·have:=h3.lt c hc;grind
    grind
   ·have:=h3.W3 c hc;grind
 ·refine⟨⟨fun _ h=>h,fun _ h=>h,fun _ h=> .inl h,fun _ h=> .inl h,fun c hc=>hw c (h3.W3 c hc) (by simp),rfl,rfl,rfl,by simp[w']⟩,by simp[St.new],fun b hb=>⟨?_,rfl⟩,fun b hb=> ?_,fun n B B' _ hB Nt mu=> ?_⟩
  ·grind[Env.Wf]
  ·grind[List.getElem?_eq_some_iff,St.new,List.getElem?_append_left]
  ·have nJ:=(ADa.1 hB).1
   simp only[St.new]at Nt;rw[AFJ nJ,hB]at Nt;cases Nt;refine⟨Pl.refl mu,fun c hc=> ?_⟩;have hF:Fs[n]? =some (Fs[n]'(by omega)):=ADU _;rcases Wj (h2 n B _ hB hF) hc with hs|hs
   ·exact hw c (h3.W3 c (st c hs)) (by simp)
   ·exact hw c (h3.lt c (AFz.2 ⟨_,AFB hF,hs⟩)) (by simp)
 ·refine⟨by simp[St.new],?_⟩
  simp[E',Env.Wf]
end Go.Fw
end
section
namespace Go.Fw
theorem FT:∀r:Ty,(C4 r).length=r.n
 | .cons c r=>by simp[C4,Ty.n,FT r]
 | .unit=>rfl
 | .int _=>rfl
 | .bool=>rfl
 | .str=>rfl
 | .sl _=>rfl
theorem Ue{E:Env}{w:World}{vw:List Bx}(t:Ty):VR E w vw (ky t) (zv t):=by
 cases t<;>first
  |exact VR.int _ _
  |exact VR.bool _
  |exact VR.str _
  |rfl
  |trivial
theorem Sy{E:Env}{w:World}{vw:List Bx}:∀r:Ty,X7 E w vw (VC r) (C4 r)
 | .cons c r=>⟨Ue c,Sy r⟩
 | .unit=>trivial
 | .int k=>⟨Ue (.int k),trivial⟩
 | .bool=>⟨Ue .bool,trivial⟩
 | .str=>⟨Ue .str,trivial⟩
 | .sl r=>⟨Ue (.sl r),trivial⟩
theorem Yy{w:World}{S:Nat→Prop}{d:Nat}:∀{r:Ty},r.iZ=true→Ow w S d r (C4 r) r.z []
 | .cons c r,h=>by
  simp only[Ty.iZ,AEE]at h;simp only[Ow,C4];refine⟨_,_,[],[],rfl,rfl,?_,Yy h.2⟩;cases c with
  |sl q=>exact cJ
  |int k=>simp[Ow,zv,Ty.z]
  |bool=>simp[Ow,zv,Ty.z]
  |str=>simp[Ow,zv,Ty.z]
  |unit=>simp[Ty.cell]at h
  |cons _ _=>simp[Ty.cell]at h
 | .unit,_=>by simp[Ow,C4]
 | .int k,_=>by simp[Ow,C4,zv,Ty.z]
 | .bool,_=>by simp[Ow,C4,zv,Ty.z]
 | .str,_=>by simp[Ow,C4,zv,Ty.z]
 | .sl q,_=>cJ
theorem WW{n:Nat}:∀{css:List (List Value)} {ex:List Value} {i j:Nat} {cs:List Value},(∀c∈css,c.length=n)→css[i]? =some cs→j<n→(css.flatten++ex)[i*n+j]? =cs[j]?
 |[],_,_,_,_,_,h,_=>by simp at h
 |c::css,ex,0,j,cs,hl,h,hj=>by
  grind
 |c::css,ex,i+1,j,cs,hl,h,hj=>by
  have hc:=hl c (by simp);have ih:=WW (css:=css) (ex:=ex) (i:=i) (j:=j) (cs:=cs) (fun c' Vy=>hl c' (List.mem_cons_of_mem _ Vy)) (by simp_all) hj;simp only[AGL,AEJ];rw[AFU (by grind),←ih];congr 1;grind
theorem bA{w:World}{b:Nat}{arr:Array Value}{ty:TypeId}{fr:AAO}(hb:w.heap[b]? =some (.cells arr ty fr)){n:Nat}{css:List (List Value)}{ex:List Value}(ha:arr.toList=css.flatten++ex)
  (hl:∀c∈css,c.length=n) {i:Nat} {cs:List Value} (h:css[i]? =some cs):BA w b (i*n) cs:=by
 intro j v hj;have hjn:j<n:=by
  grind
 simp only[World.cell?,hb,AGS,AFZ,AFg];rw[←Array.getElem?_toList,ha,WW hl h hjn,hj]
theorem YH{w:World}{S:Nat→Prop}{d b cap:Nat}{r:Ty}{rows:List r.D}{arr:Array Value}{ty:TypeId}{fr:AAO}(hb:w.heap[b]? =some (.cells arr ty fr)){css:List (List Value)}{ex:List Value}
  (ha:arr.toList=css.flatten++ex) (hc:css.length=rows.length) (oH:rows.length≤cap) (LW:cap*r.n≤arr.size) (hu:ks fr (arr.size+mk r)) {Fs:List AAF} (hF:Fs.length=rows.length)
  (Vr:∀(i:Nat) cs y G,css[i]? =some cs→rows[i]? =some y→Fs[i]? =some G→Ow w S d r cs y G):
  Ow w S (d+1) (.sl r) [.slice (some ⟨b,0,none⟩) rows.length cap] rows (b::Fs.flatten):=by
 have hl:∀c∈css,c.length=r.n:=by
  intro c Vy;obtain⟨i,hi,rfl⟩:=AGD Vy;exact Rc (Vr i _ _ _ (ADU hi) (ADU (by omega)) (ADU (by omega)))
 simp only[Ow];refine⟨_,cap,rfl,oH,.inr ⟨b,0,arr,ty,fr,Fs,rfl,hb,by omega,hu,rfl,hF,fun i y G hy hG=> ?_⟩⟩;have hi:i<css.length:=by
  grind
 refine⟨css[i],hl _ (ADz hi),?_,Vr i _ y G (ADU hi) hy hG⟩;rw[AGm];grind[bA,List.getElem?_eq_getElem]
theorem ZH(n:Nat):ks (0,0) n:=fun i _ h=>by omega
theorem J6{w:World}{o:Obj}{c:Nat}(h:c<w.heap.size):(w.heap.push o)[c]? =w.heap[c]?:=by
 grind
section
variable{Y:Type} {P:Program} {T:FI} (hT:Cq P T) {o:Oper} {E:Env} {σ:St} {a:Act} {w:World} {k:K Y} {y:Y}
theorem ou(h:Rel E σ a w){t:TypeId}{x:Operand}(ho:o.op= .box t x)(hk:(σ.ev x).cells.all AV.known=true)(hn:(σ.ev x).cells≠[])(e:k (.c (.EN σ.bx.length 0)) (σ.new (.mem (σ.ev x).cells))=some y):
  Gm P o E σ a w k y:=by
 obtain⟨h1,h2⟩:=df (h.ev x) hk hn;obtain⟨r1,r2,r3⟩:=dc h t h1;refine⟨_,_,_,_,_,.inl ?_,r1,r3,r2.any,rfl,e⟩;simp only[execOp,ho,Instr.box,newVar,newRow,Sem.run_bind,run_newObj,Result.andThen_ok,Sem.run_pure];rfl
include hT
theorem row_zero{t:Nat}{r:Ty}(e:T.YK t=some r):∃i z,P.info? t=some i∧i.zero=some z∧z.cells.toList=C4 r∧r.iZ=true:=by
 unfold FI.YK at e;split at e
 ·rename_i ti Ql
  obtain⟨i,h1,_,_,h2⟩:=(hT t ti Ql).info;simp_all
 simp_all
theorem kR(h:Rel E σ a w){t:TypeId}(ho:o.op= .alloc t){r:Ty}(hr:T.YK t=some r)(e:k (.c (.EN σ.bx.length 0)) (σ.new (.mem (VC r)))=some y):Gm P o E σ a w k y:=by
 obtain⟨i,z,h1,h2,h3,_⟩:=row_zero hT hr;obtain⟨r1,r2,r3⟩:=dc (arr:=z.cells) h t (by rw[h3];exact Sy r);refine⟨_,_,_,_,_,.inl ?_,r1,r3,r2.any,rfl,e⟩;simp only[execOp,ho,Instr.alloc,zeroValue,typeInfo,newVar,newRow,Sem.run_bind,run_program,Result.andThen_ok,h1,h2,run_newObj,Sem.run_pure];rfl
end
end Go.Fw
end
section
namespace Go.Fw
def C1(arr:Array Value):Nat→List Value→Array Value
 |_,[]=>arr
 |o,c::l=>C1 (arr.setIfInBounds o c) (o+1) l
theorem F9:∀(l:List Value) (o:Nat) (arr:Array Value),(C1 arr o l).size=arr.size
 |[],_,_=>rfl
 |c::l,o,arr=>by simp[C1,F9 l]
theorem c_(off:Nat):∀(l:List Value) (k:Nat) (arr:Array Value),(l.zipIdx k).foldl (fun cs (q:Value×Nat)=>cs.setIfInBounds (off+q.2) q.1) arr=C1 arr (off+k) l
 |[],_,_=>rfl
 |c::l,k,arr=>by
  simp only[List.zipIdx_cons,List.foldl_cons,C1];rw[c_ off l (k+1)];rfl
theorem SY{E:Env}{w:World}{vw:List Bx}:∀{xs:List AV} {vs:List Value} {cs Wd:List AV} {arr:Array Value} {o:Nat},X7 E w vw cs arr.toList→X7 E w vw xs vs→Sg cs o xs=some Wd→
  X7 E w vw Wd (C1 arr o vs).toList∧o+xs.length≤cs.length∨(xs=[]∧Wd=cs)
 |[],[],cs,Wd,arr,o,h,_,e=>by simp only[Sg,ADS]at e;simp_all
 |x::xs,v::vs,cs,Wd,arr,o,h,hx,e=>by
  simp only[Sg]at e;split at e
  case isFalse=>cases e
  rename_i ho;have h1:X7 E w vw (cs.set o x) (arr.setIfInBounds o v).toList:=by
   rw[Array.toList_setIfInBounds];exact A5.set h hx.1
  rcases SY h1 hx.2 e with⟨h2,h3⟩|⟨rfl,rfl⟩
  ·refine .inl ⟨h2,?_⟩
   grind
  ·cases vs with
   |nil=>exact .inl ⟨h1,by grind⟩
   |cons _ _=>exact hx.2.elim
 |[],_::_,_,_,_,_,_,hx,_=>hx.elim
 |_::_,[],_,_,_,_,_,hx,_=>hx.elim
section
variable{Y:Type} {P:Program} {T:FI} (hT:Cq P T) {o:Oper} {E:Env} {σ:St} {a:Act} {w:World} {k:K Y} {y:Y}
def lS(E:Env)(w:World)(vw:List Bx)(l:List (Nat×XV))(m:List (Nat×Value)):Prop:=A5 (fun x v=>x.1=v.1∧XR E w vw x.2 v.2) l m
theorem bh(h:Rel E σ a w)(ps:Array (Nat×Operand)):lS E w σ.bx (ps.toList.map fun q=>(q.1,σ.ev q.2)) (ps.map fun(i,x)=>(i,a.eval x)).toList:=by
 rw[Array.toList_map]
 generalize ps.toList=l
 induction l with
 |nil=>trivial
 |cons q l ih=>exact⟨⟨rfl,h.ev q.2⟩,ih⟩
theorem fX{place:Nat→Option AAO}{i off size:Nat}(hp:place i=some (off,size)){cells:Array Value}{v:Value}{rest:List (Nat×Value)}(h1:v.cells.size=size)(h2:off+v.cells.size≤cells.size):
  Instr.fill place cells ((i,v)::rest)=Instr.fill place (C1 cells off v.cells.toList) rest:=by
 have e:v.cells.zipIdx.foldl (fun cs (q:Value×Nat)=>cs.setIfInBounds (off+q.2) q.1) cells=C1 cells off v.cells.toList:=by
  rw[←Array.foldl_toList];have:(v.cells.zipIdx).toList=v.cells.toList.zipIdx:=by simp
  rw[this];exact c_ off v.cells.toList 0 cells
 conv=>lhs;unfold Instr.fill
 grind
theorem cY{α β:Type}{f:α→Option β}{g:α→β}:∀{l:List α},(∀x∈l,f x=some (g x))→l.mapM f=some (l.map g)
 |[],_=>rfl
 |x::l,h=>by
  simp only[AG9,h x (by simp),cY (l:=l) (g:=g) (fun y hy=>h y (by simp[hy]))];rfl
include hT
theorem VO{fs:List AAO}{vw:List Bx}:∀{parts:List (Nat×XV)} {vals:List (Nat×Value)} {cs Wd:List AV} {arr:Array Value},lS E w vw parts vals→X7 E w vw cs arr.toList→Xl T fs cs parts=some Wd→
  ∃Jb:Array Value,Instr.fill (fun i=>(fs[i]?).bind fun q=>((P.info? q.2).map fun i=>(q.1,i.size))) arr vals=some Jb∧X7 E w vw Wd Jb.toList
 |[],[],cs,Wd,arr,_,h,e=>by
  simp only[Xl,ADS]at e;subst e;exact⟨arr,rfl,h⟩
 |(i,x)::ps,(j,v)::vs,cs,Wd,arr,hp,h,e=>by
  obtain⟨⟨wv,hx⟩,hp⟩:=hp;simp only at wv hx;subst wv;simp only[Xl]at e;split at e
  case h_2=>cases e
  rename_i off u hf;split at e
  case h_2=>cases e
  rename_i ti Ql;split at e
  case isFalse=>cases e
  rename_i hc;obtain⟨c1,c2,c3⟩:=hc;simp only[ADc]at e;obtain⟨cs1,e1,e2⟩:=e;have aB:x.cells≠[]:=by grind
  obtain⟨x1,x2⟩:=df hx c3 aB;rcases SY h x1 e1 with⟨s1,s2⟩|⟨s1,_⟩
  ·have LW:v.cells.size=ti.size:=by
    have:=x1.len;simp_all
   have hlen:=h.len;obtain⟨Jb,f1,f2⟩:=VO hp s1 e2;refine⟨Jb,?_,f2⟩;have AER:(fun i=>(fs[i]?).bind fun q=>((P.info? q.2).map fun i=>(q.1,i.size))) i=some (off,ti.size):=by
    have:=Cq.size hT Ql;simp_all
   grind[fX]
  simp_all
 |[],_::_,_,_,_,hp,_,_=>hp.elim
 |_::_,[],_,_,_,hp,_,_=>hp.elim
theorem kk(h:Rel E σ a w){t:TypeId}{ps:Array (Nat×Operand)}(ho:o.op= .build t ps){s b:Nat}{fs:List AAO}{rw:Option Ty}(Ql:T.get t=some ⟨s,b,.st fs,rw⟩){r:Ty}(hr:T.YK t=some r)
  {cs:List AV} (hb:Xl T fs (VC r) (ps.toList.map fun q=>(q.1,σ.ev q.2))=some cs) (e:k (.agg cs) σ=some y):Gm P o E σ a w k y:=by
 obtain⟨i,z,h1,h2,h3,_⟩:=row_zero hT hr;obtain⟨fields,hu,hfs,LW⟩:=sY hT Ql;obtain⟨Jb,f1,f2⟩:=VO hT (bh h ps) (arr:=z.cells) (by grind[Sy]) hb;refine Gm.same h (v:= .agg Jb) (x:= .agg cs) ?_ ⟨Jb,rfl,f2⟩ e
 have hb:P.built t (ps.map fun(i,x)=>(i,a.eval x)).toList=some Jb:=by
  unfold Program.built;simp only[h1,hu,h2];have hm:fields.toList.mapM (fun f=>(P.info? f.type).map fun i=>(f.offset,i.size))=some (fields.toList.map fun f=>(f.offset,((P.info? f.type).map (·.size)).getD 0)):=by
   grind[cY]
  simp only[hm];rw[←f1];congr 1;funext n;subst hfs;simp only[List.getElem?_toArray,AFr];cases hn:fields.toList[n]? with
  |none=>simp
  |some f=>
   obtain⟨i',LH,_⟩:=LW f (AFB hn);simp[LH]
 grind[run_build,execOp,Sem.run_bind,Result.andThen_ok,Sem.run_pure]
end
end Go.Fw
end
section
namespace Go.Fw
theorem wrap_small{n:Int}(h0:0≤n)(h1:n≤(Ej:Int)):IntKind.i64.wrap n=n:=by
 simp only[Ej]at h1;unfold IntKind.wrap;simp only[IntKind.bits,IntKind.signed];grind
theorem FA{m:Nat}{zl:List Value}:((List.replicate m zl).flatten).length=m*zl.length:=by
 simp_all
theorem Hq{zl:List Value}:∀{m i:Nat},i<m*zl.length→((List.replicate m zl).flatten)[i]? =zl[i%zl.length]?
 |0,i,h=>by omega
 |m+1,i,h=>by
  simp only[List.replicate_succ,AGL];by_cases hi:i<zl.length
  ·rw[AFJ hi,Nat.mod_eq_of_lt hi]
  ·have LH:zl.length≤i:=by omega
   rw[AFU LH,Hq (by grind),←Nat.mod_eq_sub_mod LH]
theorem U7{zero:Array Value}{zl:List Value}(hz:zero.toList=zl)(m:Nat)(h0:zl≠[]):((Array.range (m*zl.length)).map (fun i=>zero[i%zero.size]!)).toList=(List.replicate m zl).flatten:=by
 have hs:zero.size=zl.length:=by grind
 have AIr:0<zl.length:=List.length_pos_iff.2 h0;apply AGj;intro i;by_cases hi:i<m*zl.length
 ·grind[Hq,Nat.mod_lt,Array.toList_map,Array.toList_range,List.getElem?_range,List.getElem?_eq_getElem]
 simp_all
section
variable{Y:Type} {P:Program} {T:FI} (hT:Cq P T) {o:Oper} {E:Env} {σ:St} {a:Act} {w:World} {k:K Y} {y:Y}
include hT
theorem Ww{e:Nat}{ti:TI}{r:Ty}(he:T.get e=some ti)(hr:ti.row=some r):∃i z,P.info? e=some i∧i.size=ti.size∧i.bytes=ti.bytes∧i.zero=some z∧z.cells.toList=C4 r∧r.iZ=true:=by
 obtain⟨i,h1,h2,h3,h4⟩:=(hT e ti he).info;simp_all
theorem nX(h:Rel E σ a w){t:TypeId}{l c:Operand}(ho:o.op= .makeSlice t l c)(e:gb T t σ (σ.ev l) (σ.ev c) k=some y):Gm P o E σ a w k y:=by
 unfold gb at e;split at e
 case h_2=>cases e
 rename_i el n m hd hl hc;split at e
 case h_2=>cases e
 rename_i r hr;split at e
 case isFalse=>cases e
 rename_i WQ;split at e
 case isFalse=>cases e
 rename_i hb;obtain⟨b0,b1,b2⟩:=hb;obtain⟨el',ti,hu,Ql,hs,hby,hrow⟩:=Ik hT WQ;obtain⟨i,z,i1,i2,i3,i4,i5,hg⟩:=Ww hT Ql hrow;obtain⟨κ1,e1⟩:=EX hl (h.ev l);obtain⟨κ2,e2⟩:=EX hc (h.ev c);have w1:=wrap_small b0 (by omega);have w2:=wrap_small (n:=m) (by omega) b2
 let arr:Array Value:=(Array.range (m.toNat*r.n)).map (fun j=>(if m.toNat*r.n=0 then #[]else z.cells)[j%(if m.toNat*r.n=0 then(#[]:Array Value)else z.cells).size]!)
 have Xm:arr.toList=(List.replicate n.toNat (C4 r)).flatten++(List.replicate (m.toNat-n.toNat) (C4 r)).flatten:=by
  have hz:=FT r;have split:(List.replicate n.toNat (C4 r)).flatten++(List.replicate (m.toNat-n.toNat) (C4 r)).flatten=(List.replicate m.toNat (C4 r)).flatten:=by
   grind[List.flatten_append,List.replicate_append_replicate]
  rw[split];by_cases h0:m.toNat*r.n=0
  ·grind[List.length_eq_zero_iff,FA]
  ·have aB:C4 r≠[]:=by
    grind
   have:=U7 i5 m.toNat aB;grind
 let w':=w.alloc (.cells arr el')
 have new:w'.heap[w.heap.size]? =some (.cells arr el'):=by
  show(w.heap.push (.cells arr el'))[w.heap.size]? =_
  simp
 have v7:arr.size=m.toNat*r.n:=by simp[arr]
 have how:Ow w' E.S (8+1) (.sl r) [.slice (some ⟨w.heap.size,0,none⟩) (List.replicate n.toNat r.z).length m.toNat] (List.replicate n.toNat r.z) (w.heap.size::(List.replicate n.toNat ([]:AAF)).flatten):=by
  refine YH new Xm (by simp) (by grind) (by omega) (ZH _) (by simp) fun i cs y G h1 h2 h3=> ?_
  simp only[List.getElem?_replicate]at h1 h2 h3;split at h1
  ·rename_i hi
   rw[ADW hi]at h2 h3;grind[Yy]
  simp_all
 have hF:(List.replicate n.toNat ([]:AAF)).flatten=[]:=by simp
 rw[hF]at how;simp only[List.length_replicate]at how;obtain⟨r1,r2,r3⟩:=NY h (DR.refl h.bx) (w':=w') (d:=9) (by omega) how (by simp) (by simp) (by simp[w']) (fun c hc _=>J6 hc) ⟨rfl,rfl,rfl,by simp[w']⟩;refine⟨_,_,_,_,_,.inl ?_,r1,r3,r2.any,rfl,e⟩;have ADo:(i.bytes:Int)*m≤2^48:=by
  have h1:(i.bytes:Int)≤512:=by omega
  have h2:(i.bytes:Int)*m≤512*m:=Int.mul_le_mul_of_nonneg_right h1 (by omega);grind[Ej]
 simp only[execOp,ho,Instr.makeSlice,e1,e2,Sem.run_bind,Ai hu,Result.andThen_ok,asInt,asIntOf,Sem.run_pure,typeInfo,run_program,i1,w1,w2];rw[AEK (by grind)];by_cases h0:m.toNat*r.n=0
 ·have e3:arr=(Array.range (m.toNat*r.n)).map (fun j=>(#[]:Array Value)[j%(#[]:Array Value).size]!):=by simp_all
  simp only[Sem.run_bind,run_askRoom,Result.andThen_ok,sizeOf,typeInfo,run_program,i1,Sem.run_pure,i2,hs,h0,AGF,newRow,run_newObj];simp only[w',e3,h0];rfl
 ·have e3:arr=(Array.range (m.toNat*r.n)).map (fun j=>z.cells[j%z.cells.size]!):=by grind
  simp only[Sem.run_bind,run_askRoom,Result.andThen_ok,sizeOf,typeInfo,run_program,i1,Sem.run_pure,i2,hs,h0,AFg,newRow,run_newObj,zeroValue,i4];simp only[w',e3];rfl
end
end Go.Fw
end
section
namespace Go.Fw
theorem bP{w:World}{B S:Nat→Prop}{d:Nat}:∀{r:Ty} {cs:List Value} {x:r.D},r.flat=true→Rd w B r cs x→Ow w S d r cs x []
 | .cons c r,cs,x,h,hr=>by
  simp only[Ty.flat,AEE]at h;simp only[Rd]at hr;obtain⟨v,l,rfl,h1,h2⟩:=hr;simp only[Ow];exact⟨v,l,[],[],rfl,rfl,bP h.1 h1,bP h.2 h2⟩
 | .unit,_,_,_,hr=>by grind[Rd,Ow]
 | .int k,_,_,_,hr=>by grind[Rd,Ow]
 | .bool,_,_,_,hr=>by grind[Rd,Ow]
 | .str,_,_,_,hr=>by grind[Rd,Ow]
 | .sl q,_,_,h,_=>by simp[Ty.flat]at h
theorem ZD{P:Program}{w:World}{b o:Nat}{cs:List Value}(h:BA w b o cs):(loadCells ⟨b,o,none⟩ cs.length).run P w= .ok cs.toArray w:=
 run_loadCells_list (P:=P) w ⟨b,o,none⟩ cs fun j v hv=>by rw[Addr.add_eq];exact h j v hv
theorem SS{l:List Value}:(l.map fun v=>[v]).flatten=l:=by
 induction l with
 |nil=>rfl
 |cons a l ih=>simp[ih]
theorem j8{w:World}{B:Nat→Prop}{r:Ty}{b o:Nat}{ys:List r.D}(h:∀(i:Nat) (y:r.D),ys[i]? =some y→ ∃cs,cs.length=r.n∧BA w b (o+i*r.n) cs∧Rd w B r cs y):
  ∃css:List (List Value),css.length=ys.length∧(∀c∈css,c.length=r.n)∧BA w b o css.flatten∧ ∀(i:Nat) cs y,css[i]? =some cs→ys[i]? =some y→Rd w B r cs y:=by
 induction ys generalizing o with
 |nil=>exact⟨[],rfl,by simp,fun _ _ h=>by simp at h,fun i cs y h=>by simp at h⟩
 |cons y ys ih=>
  obtain⟨cs,c1,c2,c3⟩:=h 0 y rfl;obtain⟨css,d1,d2,d3,d4⟩:=ih (o:=o+r.n) (fun i z hz=>by
   obtain⟨cs,e1,e2,e3⟩:=h (i+1) z (by simp_all);grind)
  refine⟨cs::css,by simp[d1],by simp_all,?_,?_⟩
  ·intro j v hj
   simp only[AGL]at hj;by_cases qW:j<cs.length
   ·rw[AFJ qW]at hj
    have:=c2 j v hj;simp_all
   ·rw[AFU (by omega)]at hj
    have:=d3 _ v hj;grind
  grind
theorem BA.append{w:World}{b o:Nat}{l m:List Value}(h:BA w b o l)(k:BA w b (o+l.length) m):BA w b o (l++m):=by
 intro j v hj;by_cases qW:j<l.length
 ·rw[AFJ qW]at hj
  exact h j v hj
 ·rw[AFU (by omega)]at hj
  have:=k _ v hj;grind
section
variable{Y:Type} {P:Program} {T:FI} (hT:Cq P T) {o:Oper} {E:Env} {σ:St} {a:Act} {w:World} {k:K Y} {y:Y}
theorem Ef(hT:Cq P T){t:Nat}{d:TD}(e:(T.get t).map TI.desc=some d):XO P t d:=by
 simp only[ADV]at e;obtain⟨ti,h1,rfl⟩:=e;exact(hT t ti h1).oN
theorem cj{src dst e:Nat}(hs:P.underlying src=some (.slice e))(he:P.underlying e=some (.int .u8))(hd:P.underlying dst=some .string){x:Value}{l:AAA}{B:Nat→Prop}
  (h:Rd w B (.sl (.int .u8)) [x] l):(convert src dst x).run P w= .ok (.string ⟨(l.map fun n:Int=>UInt8.ofNat n.toNat).toArray⟩) w:=by
 simp only[Rd]at h;obtain⟨a,cap,hx,hle,h⟩:=h;simp only[AFW,AGN]at hx;subst hx;rcases h with h|⟨b,o,rfl,_,h⟩
 ·obtain rfl:=AFv h
  cases a with
  |none=>exact run_convert_bytes_nil w src e hs he _ _ dst hd
  |some a=>
   rw[run_convert_bytes_string w src dst e _ _ cap hs he hd];rfl
 ·refine run_convert_bytes_arg w src e hs he b o _ cap l rfl (fun i hi=> ?_) dst hd
  obtain⟨cs,c1,c2,c3⟩:=h i _ (ADU hi);subst c3;have:=c2 0 _ rfl;grind
include hT in
theorem mo(h:Rel E σ a w){src dst:Nat}{x:Operand}(ho:o.op= .convert src dst x)(e:gR T src dst σ (σ.ev x) k=some y):Gm P o E σ a w k y:=by
 have hx:=h.ev x;unfold gR at e;split at e
 ·rename_i κ0 κ j n hs hd hv
  have h1:=Ef hT hs;have h2:=Ef hT hd;rw[hv]at hx;have Vs:=U3 (E:=E) (w:=w) (vw:=σ.bx) hx;refine Gm.same h (v:= .int κ (κ.wrap n)) (x:= .c (.v (.int κ) (κ.wrap n))) ?_ (VR.int (E:=E) (vw:=σ.bx) _ _) e
  simp only[XO]at h1 h2;simp only[execOp,ho,Vs,convert,Sem.run_bind,Ai h1,Ai h2,Result.andThen_ok,Conv.intToInt,Sem.run_pure]
 ·rename_i s hs hd hv
  have h1:=Ef hT hs;have h2:=Ef hT hd;rw[hv]at hx;have Vs:=RW (E:=E) (w:=w) (vw:=σ.bx) hx;refine Gm.same h (v:= .string ⟨s.toArray⟩) (x:= .c (.v .str s)) ?_ (VR.str (E:=E) (vw:=σ.bx) _) e
  simp only[XO]at h1 h2;simp only[execOp,ho,Vs,convert,Sem.run_bind,Ai h1,Ai h2,Result.andThen_ok,Sem.run_pure]
 ·rename_i el s hs hd hv
  have h1:=Ef hT hs;have h2:=Ef hT hd;rw[hv]at hx;have Vs:=RW (E:=E) (w:=w) (vw:=σ.bx) hx;split at e
  case h_2=>cases e
  rename_i WQ;have h3:=Ef hT WQ;split at e
  case isFalse=>cases e
  rename_i hO;simp only[XO]at h1 h2 h3
  let S0:ByteArray:=⟨s.toArray⟩
  have LW:S0.size=s.length:=by simp[S0,ByteArray.size]
  have lP:=Lib.run_convert_string_bytes (P:=P) w src dst el S0 h1 h2 h3;have oH:s.length≤grownCap w S0.size 0 el:=by rw[LW];exact grownCap_ge _ _ _ _
  have new:=Lib.bytesWorld_at_new w el S0;have Xm:(Lib.bytesCells w el S0).toList=(s.map fun c=>[Value.int .u8 (c.toNat:Int)]).flatten++List.replicate (grownCap w S0.size 0 el-S0.size) (.int .u8 0):=by
   have:(s.map fun c=>[Value.int .u8 (c.toNat:Int)]).flatten=s.map fun c=>Value.int .u8 (c.toNat:Int):=by
    have:=SS (l:=s.map fun c=>Value.int .u8 (c.toNat:Int));simpa[AG7,Function.comp_def]using this
   rw[this];simp[Lib.bytesCells,S0]
  have v7:(Lib.bytesCells w el S0).size=grownCap w S0.size 0 el:=by
   rw[←AG4,Xm];have:((s.map fun c=>[Value.int .u8 (c.toNat:Int)]).flatten).length=s.length:=by
    have:=SS (l:=s.map fun c=>Value.int .u8 (c.toNat:Int));rw[AG7]at this;have e2:(s.map fun c=>[Value.int .u8 (c.toNat:Int)])=s.map ((fun v=>[v])∘fun c=>Value.int .u8 (c.toNat:Int)):=rfl;rw[e2,this];simp
   rw[AGr,this,List.length_replicate];omega
  have how:Ow (Lib.bytesWorld w el S0) E.S (8+1) (.sl (.int .u8)) [.slice (some ⟨w.heap.size,0,none⟩) (s.map fun c=>(c.toNat:Int)).length (grownCap w S0.size 0 el)] (s.map fun c=>(c.toNat:Int))
    (w.heap.size::(List.replicate s.length ([]:AAF)).flatten):=by
   refine YH (css:=s.map fun c=>[Value.int .u8 (c.toNat:Int)]) new Xm (by simp) (by simpa using oH) (by simp[Ty.n];omega) (fun i hi hh=>by simp only[mk]at hi;omega) (by simp) fun i cs y G q1 q2 q3=> ?_
   simp only[AFr,ADV]at q1 q2;obtain⟨c1,z1,rfl⟩:=q1;obtain⟨c2,z2,rfl⟩:=q2;rw[z1]at z2;cases z2;have:G=[]:=AGk (AFB q3);subst this;simp[Ow]
  have hF:(List.replicate s.length ([]:AAF)).flatten=[]:=by simp
  rw[hF]at how;obtain⟨r1,r2,r3⟩:=NY h (DR.refl h.bx) (w':=Lib.bytesWorld w el S0) (d:=9) (by omega) how (by simp) (by simp) (by simp[Lib.bytesWorld_size]) (fun c hc _=>Lib.bytesWorld_at_old w el S0 c hc)
   ⟨by simp[Lib.bytesWorld,World.freeze]<;>rfl,by simp[Lib.bytesWorld,World.freeze]<;>rfl,by simp[Lib.bytesWorld,World.freeze]<;>rfl,by rw[Lib.bytesWorld_size];omega⟩
  refine⟨_,_,_,_,_,.inl ?_,r1,r3,r2.any,rfl,e⟩;simp only[execOp,ho,Vs,Sem.run_bind];have e5:=lP;simp only[S0]at e5;rw[e5];simp only[Result.andThen_ok,Sem.run_pure,List.length_map];rfl
 ·rename_i el z hs hd hv
  have h1:=Ef hT hs;have h2:=Ef hT hd;rw[hv]at hx;split at e
  case h_2=>cases e
  rename_i l WQ hl;have h3:=Ef hT WQ;simp only[XO]at h1 h2 h3;obtain⟨Fs,hB,hS⟩:=h.bx;have Uu:=O6 (Cf.refl σ.bx) hB hS.st hx hl;have hr:=cj (P:=P) h1 h3 h2 Uu;refine Gm.same h (v:= .string ⟨(l.map fun n:Int=>UInt8.ofNat n.toNat).toArray⟩) (x:= .c (.v .str (l.map fun n:Int=>UInt8.ofNat n.toNat))) ?_ (VR.str (E:=E) (vw:=σ.bx) _) e
  simp only[execOp,ho,Sem.run_bind,hr,Result.andThen_ok,Sem.run_pure]
 ·cases e
end
end Go.Fw
end
section
namespace Go.Fw
theorem Vg:∀(l:List Value) (o:Nat) (arr:Array Value) (p q:List Value),p.length=o→(∃m:List Value,m.length=l.length∧arr.toList=p++m++q)→(C1 arr o l).toList=p++l++q
 |[],o,arr,p,q,hp,⟨m,hm,h⟩=>by
  grind[List.eq_nil_of_length_eq_zero,C1]
 |c::l,o,arr,p,q,hp,⟨m,hm,h⟩=>by
  cases m with
  |nil=>simp_all
  |cons b m=>
   simp only[C1];have:=Vg l (o+1) (arr.setIfInBounds o c) (p++[c]) q (by simp[hp]) ⟨m,by simp_all,by
    simp_all⟩
   simp_all
theorem DR.more{E E1 E2:Env}{w:World}{vw bx ZA Uv:List Bx}{G F1 F2 A W:AAF}(k1:DR E w vw bx G E1 ZA F1)(k2:DR E1 w vw ZA (F1++G) E2 Uv F2)(hp:F1.Perm (A++W)):
  let E3:Env:={ E2 with S:=fun c=>E2.S c∨c∈W,T:=fun c=>E2.T c∨c∈W }
  DR E w vw bx G E3 Uv (A++F2):=by
 intro E3;have hB:=k2.boxes.perm (G':=(F2++A)++W++G) (by
  grind)
 obtain⟨hle,Sr⟩:=hB.share;exact⟨(k1.le.trans k2.le).trans hle,k2.len.trans k1.len,fun b B hb=>(k2.within b B hb).elim .inl (k1.within b B),Sr.perm (AGb _ List.perm_append_comm)⟩
theorem UQ{w:World}{vw:List Bx}{r:Ty}(hg:r.iZ=true):∀{n i:Nat} {parts:List (Nat×XV)} {vals:List (Nat×Value)} {E:Env} {bx:List Bx} {G:AAF} {d:Nat} {rows:List r.D} {K6:List Bx} {d':Nat},
  BR E w vw bx G→Cf bx vw→1≤d→lS E w vw parts vals→Ta r i n parts bx d=some (rows,K6,d')→1≤d'∧d'≤d∧rows.length=n∧ ∃(E':Env) (Fs:List AAF) (css:List (List Value)),
   DR E w vw bx G E' K6 Fs.flatten∧css.length=n∧Fs.length=n∧(∀(k:Nat) cs y G,css[k]? =some cs→rows[k]? =some y→Fs[k]? =some G→Ow w E'.S (d'-1) r cs y G)∧
   ∀(pre:List (List Value)) (arr:Array Value),pre.length=i→(∀c∈pre,c.length=r.n)→arr.toList=pre.flatten++(List.replicate n (C4 r)).flatten→
    ∃Jb,Instr.fill (fun i=>some (i*r.n,r.n)) arr vals=some Jb∧Jb.toList=pre.flatten++css.flatten
 |0,i,[],[],E,bx,G,d,rows,K6,d',h,hw,hd,hp,e=>by
  simp only[Ta,ADS,AFu]at e;obtain⟨rfl,rfl,rfl⟩:=e;refine⟨hd,AF2 _,rfl,E,[],[],DR.refl h,rfl,rfl,by simp,fun pre arr _ _ ha=>⟨arr,rfl,by simp_all⟩⟩
 |n+1,i,(j,x)::l,(j',v)::m,E,bx,G,d,rows,K6,d',h,hw,hd,hp,e=>by
  obtain⟨⟨hj,hx⟩,hp⟩:=hp;simp only at hj hx;subst hj;simp only[Ta]at e;split at e
  case isFalse=>cases e
  rename_i wv;subst wv;simp only[ADc,ADV,AFu]at e;obtain⟨⟨y1,ZA,d1⟩,e1,⟨y2,Uv,d2⟩,e2,rfl,rfl,rfl⟩:=e;dsimp only at e2⊢;obtain⟨a1,a2,E1,F1,k1,o1⟩:=jU h hw hd hx e1;have i7:=k1.le.keep (w:=w) (vw:=vw) h.st;obtain⟨b1,b2,b3,E2,Fs,css,k2,c1,c2,c3,c4⟩:=UQ hg (G:=F1++G) k1.boxes (hw.dr k1) a1 (hp.imp fun _ _ q=>⟨q.1,JS i7 q.2⟩) e2;obtain⟨A,W,cW,o1'⟩:=FJ (d:=d'-1) (by omega) o1;refine⟨b1,AGG b2 a2,by simp[b3],_,A::Fs,v.cells.toList::css,DR.more k1 k2 cW,by simp[c1],by simp[c2],fun k cs y G' q1 q2 q3=> ?_,fun pre arr hpl hpn ha=> ?_⟩
  ·cases k with
   |zero=>
    simp at q1 q2 q3;subst q1 q2 q3;refine CH (S:=fun b=>E1.S b∨b∈W) ?_ (fun _ _=>rfl) (fun _ _=>rfl) o1'
    intro c hc;exact hc.elim (fun h=> .inl (k2.le.S c h)) .inr
   |succ k=>
    refine CH (S:=E2.S) ?_ (fun _ _=>rfl) (fun _ _=>rfl) (c3 k cs y G' (by simp_all) (by simp_all) (by simp_all))
    simp_all
  ·have hlen:v.cells.toList.length=r.n:=Rc o1
   have hpf:pre.flatten.length=i*r.n:=by
    clear ha c4
    subst hpl;clear e1 e2
    induction pre with
    |nil=>simp
    |cons c pre ih=>grind
   have Ul:(C1 arr (i*r.n) v.cells.toList).toList=pre.flatten++v.cells.toList++(List.replicate n (C4 r)).flatten:=
    Vg _ _ _ _ _ hpf ⟨C4 r,by rw[FT,hlen],by grind⟩
   obtain⟨Jb,f1,f2⟩:=c4 (pre++[v.cells.toList]) (C1 arr (i*r.n) v.cells.toList) (by simp[hpl]) (by
    grind) (by simp_all)
   refine⟨Jb,?_,by simp_all⟩;rw[fX (i:=i) (off:=i*r.n) (size:=r.n) rfl (by omega) ?_]
   all_goals grind[List.length_append,FA,FT,Nat.succ_mul]
 |n+1,i,[],[],E,bx,G,d,rows,K6,d',h,hw,hd,hp,e=>by
  simp only[Ta,ADV,AFu]at e;obtain⟨⟨y2,Uv,d2⟩,e2,rfl,rfl,rfl⟩:=e;obtain⟨b1,b2,b3,E2,Fs,css,k2,c1,c2,c3,c4⟩:=UQ hg (G:=G) h hw hd (parts:=[]) (vals:=[]) trivial e2;refine⟨b1,b2,by simp[b3],E2,[]::Fs,C4 r::css,by simp_all,by simp[c1],by simp[c2],fun k cs y G' q1 q2 q3=> ?_,fun pre arr hpl hpn ha=> ?_⟩
  ·grind[Yy]
  ·obtain⟨Jb,f1,f2⟩:=c4 (pre++[C4 r]) arr (by simp[hpl]) (by
    grind[FT]) (by grind)
   simp_all
 |0,_,_::_,_,_,_,_,_,_,_,_,_,_,_,_,e=>by simp[Ta]at e
 |0,_,[],_::_,_,_,_,_,_,_,_,_,_,_,hp,_=>hp.elim
 |_+1,_,[],_::_,_,_,_,_,_,_,_,_,_,_,hp,_=>hp.elim
 |_+1,_,_::_,[],_,_,_,_,_,_,_,_,_,_,hp,_=>hp.elim
section
variable{Y:Type} {P:Program} {T:FI} (hT:Cq P T) {o:Oper} {E:Env} {σ:St} {a:Act} {w:World} {k:K Y} {y:Y}
include hT
theorem aZ(h:Rel E σ a w){t n:Nat}{ps:Array (Nat×Operand)}(ho:o.op= .buildSlice t n ps)(e:LF T t n (ps.toList.map fun q=>(q.1,σ.ev q.2)) σ k=some y):Gm P o E σ a w k y:=by
 unfold LF at e;split at e
 case h_2=>cases e
 rename_i el hd;split at e
 case h_2=>cases e
 rename_i r hr;split at e
 case isFalse=>cases e
 rename_i hc;simp only[AEE,AEe]at hc;obtain⟨⟨WQ,hn⟩,hrn⟩:=hc;simp only[ADc]at e;obtain⟨⟨rows,K6,d'⟩,e1,e⟩:=e;dsimp only at e;obtain⟨el',ti,hu,Ql,hs,hby,hrow⟩:=Ik hT WQ;obtain⟨i,z,i1,i2,i3,i4,i5,hg⟩:=Ww hT Ql hrow;have xo:=bh h ps;obtain⟨b1,b2,b3,E',Fs,css,k2,c1,c2,c3,c4⟩:=UQ hg h.bx (Cf.refl _) (by omega) xo e1
 let zero:Array Value:=if n*r.n=0 then #[]else z.cells
 have hz:((Array.range (n*r.n)).map (fun j=>zero[j%zero.size]!)).toList=(List.replicate n (C4 r)).flatten:=by
  by_cases h0:n*r.n=0
  ·have h1:(List.replicate n (C4 r)).flatten=[]:=by
    rw[←List.length_eq_zero_iff,FA,FT,h0]
   rw[h1];simp[h0]
  ·have aB:C4 r≠[]:=by
    intro he;have:=FT r;rw[he]at this;simp at this;rw[←this]at h0;simp at h0
   have:=U7 i5 n aB;rw[FT]at this;simp only[zero,AEK h0];exact this
 obtain⟨Jb,f1,f2⟩:=c4 [] _ rfl (by simp) (by rw[hz];simp);simp only[AGU,AFO]at f2
 let w':=w.alloc (.cells Jb el')
 have new:w'.heap[w.heap.size]? =some (.cells Jb el'):=by
  show(w.heap.push (.cells Jb el'))[w.heap.size]? =_
  simp
 obtain⟨d,rfl⟩:∃m,d' =m+1:=⟨d'-1,by omega⟩;have hl:∀c∈css,c.length=r.n:=by
  intro c hc;obtain⟨j,hj,rfl⟩:=AGD hc;exact Rc (c3 j _ _ _ (ADU hj) (ADU (by omega)) (ADU (by omega)))
 have hfl:css.flatten.length=n*r.n:=by
  rw[←c1];clear f2 c3 c4 c1
  induction css with
  |nil=>simp
  |cons c l ih=>simp[hl c (by simp),ih (fun c hc=>hl c (by simp[hc])),Nat.succ_mul];omega
 have v7:Jb.size=n*r.n:=by rw[←AG4,f2,hfl]
 obtain⟨Fs0,hB1,Sr⟩:=k2.boxes;simp only[AFp]at Sr;have how:Ow w' E'.S (d+1) (.sl r) [.slice (some ⟨w.heap.size,0,none⟩) rows.length n] rows (w.heap.size::Fs.flatten):=by
  refine YH (css:=css) (ex:=[]) new (by simpa using f2) (by omega) (by omega) (by omega) (ZH _) (by omega) fun k cs y G q1 q2 q3=> ?_
  have XD:∀c∈G,c∈Fs.flatten:=fun c hc=>AFz.2 ⟨G,AFB q3,hc⟩
  exact CH (fun _ h=>h) (fun c hc=>J6 (Sr.W3 c (Sr.st c hc))) (fun c hc=>J6 (Sr.lt c (by simp only[AFt];exact .inr (XD c hc)))) (by simpa using c3 k cs y G q1 q2 q3)
 rw[b3]at how;obtain⟨r1,r2,r3⟩:=NY h k2 (w':=w') (d:=d+1) (by omega) how (by
   intro c hc;rcases AGO.1 hc with rfl|hc
   ·exact .inr (AF2 _)
   ·exact .inl hc) (by
   refine AG5.2 ⟨fun hc=> ?_,(AEO.1 Sr.nodup).2.1⟩;have:=Sr.lt w.heap.size (by simp only[AFt];exact .inr hc);omega) (by
   intro c hc;rcases AGO.1 hc with rfl|hc
   ·simp[w']
   ·have:=Sr.lt c (by simp only[AFt];exact .inr hc)
    simp[w'];omega) (fun c hc _=>J6 hc) ⟨rfl,rfl,rfl,by simp[w']⟩
 refine⟨_,_,_,_,_,.inl ?_,r1,r3,r2.any,rfl,e⟩;have hO: ¬(n*r.n>2^24):=by
  have:n*r.n≤1024*1024:=Nat.mul_le_mul hn hrn;omega
 simp only[execOp,ho,Instr.buildSlice,Sem.run_bind,Ai hu,Result.andThen_ok,sizeOf,typeInfo,run_program,i1,Sem.run_pure,i2,hs,hO,AFg];by_cases h0:n*r.n=0
 ·have hz0:zero= #[]:=by simp only[zero,ADW h0]
  rw[hz0]at f1;simp only[h0,AGF,Sem.run_bind,Sem.run_pure,Result.andThen_ok];rw[h0]at f1;simp only[f1,newRow,Sem.run_bind,run_newObj,Result.andThen_ok,Sem.run_pure];rfl
 ·have hz0:zero=z.cells:=by simp only[zero,AEK h0]
  rw[hz0]at f1;simp only[h0,AFg,Sem.run_bind,zeroValue,typeInfo,run_program,Result.andThen_ok,i1,Sem.run_pure,i4];simp only[f1,newRow,Sem.run_bind,run_newObj,Result.andThen_ok,Sem.run_pure];rfl
end
end Go.Fw
end
section
namespace Go.Fw
theorem VL(w:World)(b o:Nat)(v:Value):(w.setCell ⟨b,o,none⟩ v).heap=w.heap.modify b fun
 | .cells c elem frozen=> .cells (c.setIfInBounds o v) elem frozen
 |o=>o:=rfl
theorem F4:∀(vs:List Value) (o:Nat) (w:World) (b:Nat) (arr:Array Value) (ty:TypeId) (fr:AAO),w.heap[b]? =some (.cells arr ty fr)→
  (w.setCells b o vs).heap[b]? =some (.cells (C1 arr o vs) ty fr)
 |[],_,_,_,_,_,_,h=>h
 |v::l,o,w,b,arr,ty,fr,h=>by
  simp only[World.setCells,C1];refine F4 l (o+1) _ b _ ty fr ?_
  rw[VL,Array.getElem?_modify,ADW rfl,h];rfl
theorem Dn:∀(vs:List Value) (o:Nat) (w:World) (b:Nat),(w.setCells b o vs).heap.size=w.heap.size
 |[],_,_,_=>rfl
 |v::l,o,w,b=>by
  simp only[World.setCells];rw[Dn l,VL,Array.size_modify]
theorem Gj:∀(vs:List Value) (o:Nat) (w:World) (b c:Nat),c≠b→(w.setCells b o vs).heap[c]? =w.heap[c]?
 |[],_,_,_,_,_=>rfl
 |v::l,o,w,b,c,h=>by
  simp only[World.setCells];rw[Gj l _ _ _ _ h,VL,Array.getElem?_modify,AEK (fun e=>h e.symm)]
theorem BZ:∀(vs:List Value) (o:Nat) (w:World) (b:Nat),Grown w (w.setCells b o vs)
 |[],_,_,_=>⟨rfl,rfl,rfl,AF2 _⟩
 |v::l,o,w,b=>by
  have:=BZ l (o+1) (w.setCell ⟨b,o,none⟩ v) b;refine⟨this.os,this.tape,this.output,?_⟩;rw[Dn];omega
theorem RD{arr:Array Value}:∀{l:List Value} {o j:Nat},o+l.length≤arr.size→(C1 arr o l)[j]? =if o≤j∧j<o+l.length then l[j-o]? else arr[j]?:=by
 intro l
 induction l generalizing arr with
 |nil=>intro o j _;rw[AEK (fun hh=>by grind)];rfl
 |cons c l ih=>
  intro o j h;simp only[AE7]at h;simp only[C1];grind
theorem Hh{w:World}{b o:Nat}{arr:Array Value}{ty:TypeId}{fr:AAO}(h:w.heap[b]? =some (.cells arr ty fr)):w.cell? ⟨b,o,none⟩=arr[o]?:=by
 simp[World.cell?,h]
theorem PO{w:World}{b o:Nat}{vs:List Value}{arr:Array Value}{ty:TypeId}{fr:AAO}(h:w.heap[b]? =some (.cells arr ty fr))(hs:o+vs.length≤arr.size):BA (w.setCells b o vs) b o vs:=by
 intro j v hj;have hl:=(ADa.1 hj).1;rw[Hh (F4 vs o w b arr ty fr h),RD hs,ADW (by omega),show o+j-o=j by omega,hj]
theorem XK{w:World}{b b' o o':Nat}{vs cs:List Value}{arr:Array Value}{ty:TypeId}{fr:AAO}(hc:BA w b' o' cs)(h:w.heap[b]? =some (.cells arr ty fr))(hs:o+vs.length≤arr.size)
  (ha:b'≠b∨o'+cs.length≤o∨o+vs.length≤o'):BA (w.setCells b o vs) b' o' cs:=by
 intro j v hj;have hl:=(ADa.1 hj).1;by_cases hb:b' =b
 ·subst hb
  have:=hc j v hj;rw[Hh h]at this;rw[Hh (F4 vs o w b' arr ty fr h),RD hs,AEK (by omega),this]
 ·rw[World.cell?_of_block (a:=⟨b',o'+j,none⟩) (Gj vs o w b b' hb)]
  exact hc j v hj
theorem Yr{w:World}{b o n k:Nat}{arr:Array Value}{ty:TypeId}{fr:AAO}(h:w.heap[b]? =some (.cells arr ty fr))(hs:o+n≤arr.size)(hu:ks fr (arr.size+k)):w.there b o n:=by
 intro j hj;refine⟨?_,?_⟩
 ·rw[Hh h]
  grind
 ·have:=hu (o+j) (by omega)
  grind[World.frozen?]
theorem gm{w:World}{S:Nat→Prop}:∀{r:Ty} {d:Nat} {cs:List Value} {y:r.D} {F:AAF},Ow w S d r cs y F→ ∀v∈cs,v.oneCell' =true
 | .int _,_,_,_,_,h,v,hv=>by simp only[Ow]at h;rw[h.1]at hv;simp at hv;subst hv;rfl
 | .bool,_,_,_,_,h,v,hv=>by simp only[Ow]at h;rw[h.1]at hv;simp at hv;subst hv;rfl
 | .str,_,_,_,_,h,v,hv=>by simp only[Ow]at h;rw[h.1]at hv;simp at hv;subst hv;rfl
 | .unit,_,_,_,_,h,v,hv=>by grind[Ow]
 | .sl _,0,_,_,_,h,v,hv=>by
  simp only[Ow,Rd]at h;obtain⟨⟨_,_,rfl,_⟩,_⟩:=h;simp at hv;subst hv;rfl
 | .sl _,_+1,_,_,_,h,v,hv=>by
  simp only[Ow]at h;obtain⟨_,_,rfl,_⟩:=h;simp at hv;subst hv;rfl
 | .cons _ _,_,_,_,_,h,v,hv=>by
  simp only[Ow]at h;obtain⟨u,l,F1,F2,rfl,_,h1,h2⟩:=h;rcases AGO.1 hv with rfl|hv
  ·exact gm h1 _ (by simp)
  ·exact gm h2 _ hv
section
variable{P:Program} {w:World}
structure fD (P:Program) (w:World) (size n:Nat) (x:Value) (news:List Value):Prop where
 len:∀w',(Builtin.lenOf x).run P w' = .ok n w'
 cells:∀w',w'.heap=w.heap→(Builtin.firstCells size n x).run P w' = .ok news.toArray w'
theorem ei{ts:Array TypeId}{t u ty e:TypeId}(jy:ts[0]? =some t)(Xe:ts[1]? =some u){i:TypeInfo}{size:Nat}(ht:P.underlying t=some (.slice e))(hu:(∃e,P.underlying u=some (.slice e))∨P.underlying u=some .string)(hi:P.info? e=some i)(LW:i.size=size)
  {b o T_ dV n:Nat} {x:Value} {news:List Value} (hn:fD P w size n x news) (js:T_+n≤dV) (hth:w.there b (o+T_*size) news.length) (h1:∀v∈news,v.oneCell' =true):
  (Builtin.append_ ts ty #[.slice (some ⟨b,o,none⟩) T_ dV,x]).run P w= .ok (.slice (some ⟨b,o,none⟩) (T_+n) dV) (w.setCells b (o+T_*size) news):=by
 subst LW;have nw:=run_storeCells_cells (P:=P) b (o+T_*i.size) news 0 w (fun j hj=>by simpa using(hth j hj).1) (fun j hj=>by simpa using(hth j hj).2) h1;simp only[AGo]at nw;have hl:=hn.len w;have hf:=hn.cells w rfl;rcases hu with⟨e',hu⟩|hu
 ·simp[Builtin.append_,jy,Xe,run_underlying ht,run_underlying hu,sizeOf,typeInfo,hi,hl,js,hf,Addr.add_eq,nw]
 ·simp[Builtin.append_,jy,Xe,run_underlying ht,run_underlying hu,sizeOf,typeInfo,hi,hl,js,hf,Addr.add_eq,nw]
theorem az{ts:Array TypeId}{t u ty e:TypeId}(jy:ts[0]? =some t)(Xe:ts[1]? =some u){i:TypeInfo}{size:Nat}(ht:P.underlying t=some (.slice e))(hu:(∃e,P.underlying u=some (.slice e))∨P.underlying u=some .string)(hi:P.info? e=some i)(LW:i.size=size)
  {a:Option Addr} {x:Value} (hn:fD P w size 0 x []):
  (Builtin.append_ ts ty #[.slice a 0 0,x]).run P w= .ok (.slice a 0 0) w:=by
 subst LW;have hl:=hn.len w;have hf:=hn.cells w rfl;cases a with
 |none=>
  rcases hu with⟨e',hu⟩|hu
  ·simp[Builtin.append_,jy,Xe,run_underlying ht,run_underlying hu,sizeOf,typeInfo,hi,hl,hf]
  ·simp[Builtin.append_,jy,Xe,run_underlying ht,run_underlying hu,sizeOf,typeInfo,hi,hl,hf]
 |some a=>
  have nw:(storeCells (a.add (0*i.size)) [] 0).run P w= .ok () w:=rfl;rcases hu with⟨e',hu⟩|hu
  ·simp[Builtin.append_,jy,Xe,run_underlying ht,run_underlying hu,sizeOf,typeInfo,hi,hl,hf,storeCells]
  ·simp[Builtin.append_,jy,Xe,run_underlying ht,run_underlying hu,sizeOf,typeInfo,hi,hl,hf,storeCells]
theorem ai{ts:Array TypeId}{t u ty e:TypeId}(jy:ts[0]? =some t)(Xe:ts[1]? =some u){i:TypeInfo}{z:Value}{size:Nat}(ht:P.underlying t=some (.slice e))(hu:(∃e,P.underlying u=some (.slice e))∨P.underlying u=some .string)(hi:P.info? e=some i)(hz:i.zero=some z)(LW:i.size=size)
  {a:Option Addr} {T_ dV n:Nat} {x:Value} {ABd news:List Value} (ho:∀w',w'.heap=w.heap→(Builtin.firstCells size T_ (.slice a T_ dV)).run P w' = .ok ABd.toArray w')
  (hn:fD P w size n x news) (AAk:dV<T_+n) (h63:T_+n≤Ej) (hby:i.bytes≤512):
  (Builtin.append_ ts ty #[.slice a T_ dV,x]).run P w= .ok (.slice (some ⟨w.heap.size,0,none⟩) (T_+n) (grownCap w (T_+n) dV e))
   (w.drew.alloc (.cells (ABd.toArray++news.toArray++Builtin.zeroCells z.cells (grownCap w (T_+n) dV e-(T_+n))) e)):=by
 subst LW;have hl:=hn.len w;have hf:=hn.cells w.drew rfl;have hfo:=ho w.drew rfl;have hno: ¬(T_+n≤dV):=by omega
 have hb:(T_+n)*i.bytes≤140737488355328:=by
  have:(T_+n)*i.bytes≤Ej*512:=Nat.mul_le_mul h63 hby;grind[Ej]
 have h48:=growslice_fits AAk hb;have ACo: ¬(281474976710656<Builtin.nextslicecap (T_+n) dV*i.bytes):=by omega
 have AB9: ¬(9223372036854775807<((T_:Int)+(n:Int))):=by grind[Ej]
 rcases hu with⟨e',hu⟩|hu
 ·simp[Builtin.append_,jy,Xe,run_underlying ht,run_underlying hu,sizeOf,typeInfo,zeroValue,hi,hz,hl,hno,AB9,ACo,Question.forced,hf,hfo,newRow,grownCap]
  grind
 ·simp[Builtin.append_,jy,Xe,run_underlying ht,run_underlying hu,sizeOf,typeInfo,zeroValue,hi,hz,hl,hno,AB9,ACo,Question.forced,hf,hfo,newRow,grownCap]
  grind
end
end Go.Fw
end
section
namespace Go.Fw
def Eu(w:World)(S:Nat→Prop)(d:Nat)(r:Ty)(css:List (List Value))(rows:List r.D)(Fs:List AAF):Prop:=
 css.length=rows.length∧Fs.length=rows.length∧(∀c∈css,c.length=r.n)∧ ∀(i:Nat) cs y G,css[i]? =some cs→rows[i]? =some y→Fs[i]? =some G→Ow w S d r cs y G
theorem Eu.mono{w w':World}{S S':Nat→Prop}{d:Nat}{r:Ty}{css:List (List Value)}{rows:List r.D}{Fs:List AAF}(h:Eu w S d r css rows Fs)(hS:∀c,S c→S' c)(hw:∀c,S c→w'.heap[c]? =w.heap[c]?)
  (hF:∀c∈Fs.flatten,w'.heap[c]? =w.heap[c]?):Eu w' S' d r css rows Fs:=
 ⟨h.1,h.2.1,h.2.2.1,fun i cs y G a b c=>CH hS hw (fun x hx=>hF x (AFz.2 ⟨G,AFB c,hx⟩)) (h.2.2.2 i cs y G a b c)⟩
theorem Eu.append{w:World}{S:Nat→Prop}{d:Nat}{r:Ty}{css AAg:List (List Value)}{rows BG:List r.D}{Fs Fs':List AAF}(h:Eu w S d r css rows Fs)(k:Eu w S d r AAg BG Fs'):
  Eu w S d r (css++AAg) (rows++BG) (Fs++Fs'):=by
 refine⟨by simp[h.1,k.1],by simp[h.2.1,k.2.1],fun c hc=>(AFt.1 hc).elim (h.2.2.1 c) (k.2.2.1 c),fun i cs y G a b c=> ?_⟩;by_cases hi:i<rows.length
 ·rw[AFJ (by rw[h.1];omega)]at a
  rw[AFJ hi]at b;rw[AFJ (by rw[h.2.1];omega)]at c;exact h.2.2.2 i cs y G a b c
 ·rw[AFU (by rw[h.1];omega)]at a
  rw[AFU (by omega)]at b;rw[AFU (by rw[h.2.1];omega)]at c;rw[h.1]at a;rw[h.2.1]at c;exact k.2.2.2 _ cs y G a b c
theorem Eu.weaken{w:World}{S:Nat→Prop}{d d':Nat}{r:Ty}{css:List (List Value)}{rows:List r.D}{Fs:List AAF}(h:Eu w S d r css rows Fs)(hd:d'≤d):
  ∃(Gs:List AAF) (W:AAF),Fs.flatten.Perm (Gs.flatten++W)∧Eu w (fun c=>S c∨c∈W) d' r css rows Gs:=by
 obtain⟨Gs,Ws,h1,h2,h3,h4⟩:=bz (R:=fun i G F W=> ∀cs y,css[i]? =some cs→rows[i]? =some y→Ow w (fun c=>S c∨c∈W) d' r cs y F) Fs 0 (fun i G hG=>by
  rw[AGm];have hi:=(ADa.1 hG).1;have h1:=h.1;have h2:=h.2.1;obtain⟨F,W,hp,ho⟩:=FJ hd (h.2.2.2 i _ _ G (ADU (by omega)) (ADU (by omega)) hG);grind)
 refine⟨Gs,Ws.flatten,h3,h.1,h1.trans h.2.1,h.2.2.1,fun i cs y G a b c=> ?_⟩;have hi:=(ADa.1 c).1;have hw:Ws[i]? =some (Ws[i]'(by omega)):=ADU _;have hf:Fs[i]? =some (Fs[i]'(by omega)):=ADU _;have:=h4 i _ _ _ hf c hw cs y (by simp_all) (by simp_all);exact CH (fun x hx=>hx.imp id fun hx=>AFz.2 ⟨_,AFB hw,hx⟩) (fun _ _=>rfl) (fun _ _=>rfl) this
theorem TQ{n:Nat}:∀{css:List (List Value)},(∀c∈css,c.length=n)→css.flatten.length=css.length*n
 |[],_=>by simp
 |c::l,h=>by simp[h c (by simp),TQ (css:=l) (fun c hc=>h c (by simp[hc])),Nat.succ_mul];omega
theorem Eu.one{w:World}{S:Nat→Prop}{d:Nat}{r:Ty}{css:List (List Value)}{rows:List r.D}{Fs:List AAF}(h:Eu w S d r css rows Fs):∀v∈css.flatten,v.oneCell' =true:=by
 intro v hv;obtain⟨c,hc,hv⟩:=AFz.1 hv;obtain⟨i,hi,rfl⟩:=AGD hc;have h1:=h.1;have h2:=h.2.1;exact gm (h.2.2.2 i _ _ _ (ADU hi) (ADU (by omega)) (ADU (by omega))) v hv
theorem Eu.flat{w:World}{B S:Nat→Prop}{d:Nat}{r:Ty}(hf:r.flat=true){css:List (List Value)}{rows:List r.D}(h1:css.length=rows.length)(h2:∀c∈css,c.length=r.n)
  (h3:∀(i:Nat) cs y,css[i]? =some cs→rows[i]? =some y→Rd w B r cs y):Eu w S d r css rows (List.replicate rows.length []):=by
 refine⟨h1,by simp,h2,fun i cs y G a b c=> ?_⟩;grind[List.mem_of_getElem?,bP]
theorem BA.heap{w w':World}{b o:Nat}{cs:List Value}(h:BA w b o cs)(e:w'.heap=w.heap):BA w' b o cs:=h.of_block (by rw[e])
theorem N3{P:Program}{w:World}{a:Option Addr}{n cap size:Nat}{css:List (List Value)}(hl:css.length=n)(hc:∀c∈css,c.length=size)
  (h:n=0∨ ∃b o,a=some ⟨b,o,none⟩∧BA w b o css.flatten):fD P w size n (.slice a n cap) css.flatten:=by
 refine⟨fun w' =>rfl,fun w' e=> ?_⟩;have hlen:css.flatten.length=n*size:=by rw[TQ hc,hl]
 rcases h with rfl|⟨b,o,rfl,h⟩
 ·have:css=[]:=AFv hl
  subst this;cases a with
  |none=>rfl
  |some a=>
   simp only[Builtin.firstCells,Nat.zero_mul,AGU];rfl
 ·simp only[Builtin.firstCells]
  rw[←hlen];exact ZD (h.heap e)
theorem oh{P:Program}{w:World}{s:List UInt8}:fD P w 1 s.length (.string ⟨s.toArray⟩) (s.map fun c=>[Value.int .u8 (c.toNat:Int)]).flatten:=by
 refine⟨fun w' =>rfl,fun w' _=> ?_⟩;have LW:(⟨s.toArray⟩:ByteArray).size=s.length:=by rfl
 have e1:(⟨s.toArray⟩:ByteArray).extract 0 s.length=⟨s.toArray⟩:=by
  rw[←LW];apply ByteArray.ext;simp
 simp only[Builtin.firstCells,e1,Sem.run_pure];have:(s.map fun c=>[Value.int .u8 (c.toNat:Int)]).flatten=s.map fun c=>Value.int .u8 (c.toNat:Int):=by
  have:=SS (l:=s.map fun c=>Value.int .u8 (c.toNat:Int));grind[List.map_map,Function.comp_def]
 simp_all
theorem mS{w:World}{S:Nat→Prop}{d:Nat}{r:Ty}{v:Value}{rows:List r.D}{F:AAF}(h:Ow w S (d+1) (.sl r) [v] rows F):
  ∃a cap css Fs R,v= .slice a rows.length cap∧rows.length≤cap∧Eu w S d r css rows Fs∧F.Perm (Fs.flatten++R)∧
   ((cap=0∧F=[])∨ ∃b o arr ty fr,a=some ⟨b,o,none⟩∧w.heap[b]? =some (.cells arr ty fr)∧o+cap*r.n≤arr.size∧ks fr (arr.size+mk r)∧F=b::Fs.flatten∧BA w b o css.flatten):=by
 simp only[Ow]at h;obtain⟨a,cap,e,hle,h⟩:=h;simp only[AFW,AGN]at e;subst e;rcases h with⟨h,rfl⟩|⟨b,o,arr,ty,fr,Fs,rfl,hb,LW,hu,rfl,hFl,hr⟩
 ·have:rows=[]:=AFv (by omega)
  subst this;exact⟨a,cap,[],[],[],rfl,hle,⟨rfl,rfl,by simp,fun i cs y G h=>by simp at h⟩,by simp,.inl ⟨h,rfl⟩⟩
 ·
  have key:∀(n o:Nat) (ys:List r.D) (Fs:List AAF),ys.length=n→Fs.length=n→(∀(i:Nat) (y:r.D) (G:AAF),ys[i]? =some y→Fs[i]? =some G→ ∃cs,cs.length=r.n∧BA w b (o+i*r.n) cs∧Ow w S d r cs y G)→
    ∃css,Eu w S d r css ys Fs∧BA w b o css.flatten:=by
   intro n
   induction n with
   |zero=>
    intro o ys Fs h1 h2 _;obtain rfl:=AFv h1;obtain rfl:=AFv h2;exact⟨[],⟨rfl,rfl,by simp,fun i cs y G h=>by simp at h⟩,fun _ _ h=>by simp at h⟩
   |succ n ih=>
    intro o ys Fs h1 h2 hh;obtain⟨y,ys,rfl⟩:=AGw h1;obtain⟨G,Fs,rfl⟩:=AGw h2;obtain⟨cs,c1,c2,c3⟩:=hh 0 y G rfl rfl;obtain⟨css,d1,d2⟩:=ih (o+r.n) ys Fs (by simp_all) (by simp_all) (fun i z G hz hG=>by
     obtain⟨cs,e1,e2,e3⟩:=hh (i+1) z G (by simp_all) (by simp_all);grind)
    refine⟨cs::css,⟨by simp[d1.1],by omega,fun c hc=> ?_,fun i Wd y' G' a b c=> ?_⟩,?_⟩
    ·rcases AGO.1 hc with rfl|hc
     ·omega
     ·exact d1.2.2.1 c hc
    ·cases i with
     |zero=>simp_all
     |succ i=>exact d1.2.2.2 i Wd y' G' (by simp_all) (by simp_all) (by simp_all)
    grind[List.flatten_cons,BA.append]
  obtain⟨css,k1,k2⟩:=key rows.length o rows Fs rfl hFl hr;refine⟨_,cap,css,Fs,[b],rfl,hle,k1,?_,.inr ⟨b,o,arr,ty,fr,rfl,hb,LW,hu,rfl,k2⟩⟩;grind
theorem ZT{w:World}{S:Nat→Prop}:∀{r:Ty} {cs:List Value} {x:r.D},Rd w S r cs x→Ow w S 0 r cs x []
 | .cons c r,cs,x,hr=>by
  simp only[Rd]at hr;obtain⟨v,l,rfl,h1,h2⟩:=hr;simp only[Ow];exact⟨v,l,[],[],rfl,rfl,ZT h1,ZT h2⟩
 | .unit,_,_,hr=>by grind[Rd,Ow]
 | .int k,_,_,hr=>by grind[Rd,Ow]
 | .bool,_,_,hr=>by grind[Rd,Ow]
 | .str,_,_,hr=>by grind[Rd,Ow]
 | .sl q,_,_,hr=>by simp only[Ow];simp_all
theorem XB{P:Program}{E:Env}{w:World}{vw bx:List Bx}{G:AAF}(h:BR E w vw bx G)(hw:Cf bx vw){x:AV}{v:Value}(hv:VR E w vw x v){r:Ty}{rows:List r.D}{K6:List Bx}{d:Nat}
  (e:bY bx x=some ⟨r,rows,K6,d⟩):1≤d∧ ∃E' F css Fs R,DR E w vw bx G E' K6 F∧F.Perm (List.flatten Fs++R)∧Eu w E'.S (d-1) r css rows Fs∧fD P w r.n rows.length v css.flatten:=by
 have plain:∀{B:Nat→Prop} {ys:List r.D},r.flat=true→Rd w B (.sl r) [v] ys→ ∀S:Nat→Prop,∃css,Eu w S 8 r css ys (List.replicate ys.length [])∧fD P w r.n ys.length v css.flatten:=by
  intro B ys hf hr S;simp only[Rd]at hr;obtain⟨a,cap,e1,hle,hr⟩:=hr;simp only[AFW,AGN]at e1;subst e1;rcases hr with hr|⟨b,o,rfl,_,hr⟩
  ·have:ys=[]:=AFv hr
   subst this;exact⟨[],⟨rfl,rfl,by simp,fun i cs y G h=>by simp at h⟩,N3 (css:=[]) rfl (by simp) (.inl rfl)⟩
  ·obtain⟨css,c1,c2,c3,c4⟩:=j8 hr
   exact⟨css,Eu.flat hf c1 c2 c4,N3 c1 c2 (.inr ⟨b,o,rfl,c3⟩)⟩
 have done:∀{B:Nat→Prop} {ys:List r.D},r.flat=true→Rd w B (.sl r) [v] ys→rows=ys→K6=bx→d=9→
   1≤d∧ ∃E' F css Fs R,DR E w vw bx G E' K6 F∧F.Perm (List.flatten Fs++R)∧Eu w E'.S (d-1) r css rows Fs∧fD P w r.n rows.length v css.flatten:=by
  intro B ys hf hr e1 e2 e3;subst e1 e2 e3;obtain⟨css,k1,k2⟩:=plain hf hr E.S;exact⟨by omega,E,[],css,_,[],DR.refl h,by simp,k1,k2⟩
 unfold bY at e;split at e
 ·rename_i s
  simp only[ADS,AEY]at e;obtain⟨rfl,e⟩:=e;have e:=AFq e;simp only[AFu]at e;obtain⟨rfl,rfl,rfl⟩:=e;have Vs:=RW hv;subst Vs;refine⟨by omega,E,[],s.map fun c=>[Value.int .u8 (c.toNat:Int)],_,[],DR.refl h,?_,Eu.flat (B:=fun _=>False) rfl (by simp) (by simp[Ty.n]) (fun i cs y a b=> ?_),?_⟩
  ·simp
  ·simp only[AFr,ADV]at a b
   obtain⟨c1,z1,rfl⟩:=a;obtain⟨c2,z2,rfl⟩:=b;grind[Rd]
  grind[oh,Ty.n]
 ·rename_i s q ys
  split at e
  ·rename_i hf
   simp only[ADS,AEY]at e;obtain⟨rfl,e⟩:=e;have e:=AFq e;simp only[AFu]at e;obtain⟨rfl,rfl,rfl⟩:=e;exact done hf hv rfl rfl rfl
  ·split at e
   case isFalse=>cases e
   rename_i hs;simp only[ADS,AEY]at e;obtain⟨rfl,e⟩:=e;have e:=AFq e;simp only[AFu]at e;obtain⟨rfl,rfl,rfl⟩:=e;subst hs;simp only[VR,AGF]at hv;simp only[Rd]at hv;obtain⟨a,cap,e1,hle,hr⟩:=hv;simp only[AFW,AGN]at e1;subst e1;have key:∃css:List (List Value),List.length css=ys.length∧(∀c∈css,c.length=q.n)∧(∀(i:Nat) cs y,css[i]? =some cs→ys[i]? =some y→Rd w E.S q cs y)∧fD P w q.n ys.length (.slice a ys.length cap) css.flatten:=by
    rcases hr with hr|⟨b,o,rfl,_,hr⟩
    ·have:ys=[]:=AFv hr
     subst this;exact⟨[],rfl,by simp,fun i cs y h=>by simp at h,N3 (css:=[]) rfl (by simp) (.inl rfl)⟩
    ·obtain⟨css,c1,c2,c3,c4⟩:=j8 hr
     exact⟨css,c1,c2,c4,N3 c1 c2 (.inr ⟨b,o,rfl,c3⟩)⟩
   obtain⟨css,c1,c2,c3,c4⟩:=key;refine⟨AF2 _,E,[],css,List.replicate ys.length [],[],DR.refl h,by simp,⟨c1,by simp,c2,fun i cs y G a b c=> ?_⟩,c4⟩;grind[List.mem_of_getElem?,ZT]
 ·rename_i b
  split at e
  case h_2=>cases e
  rename_i d0 q ys hb;split at e
  ·rename_i hf
   simp only[ADS,AEY]at e;obtain⟨rfl,e⟩:=e;have e:=AFq e;simp only[AFu]at e;obtain⟨rfl,rfl,rfl⟩:=e;obtain⟨Fs,hB,hS⟩:=h;exact done hf (UX hw hB hS.st hv (q:=q) (ys:=ys) (by simp[Hu,hb,DK])) rfl rfl rfl
  ·simp only[ADS,AEY]at e
   obtain⟨rfl,e⟩:=e;have e:=AFq e;simp only[AFu]at e;obtain⟨rfl,rfl,rfl⟩:=e;obtain⟨F,⟨hd,ho⟩,hB⟩:=h.take hb;have hvw:=Ti hw hb;simp only[VR,hvw,Bc,ADS]at hv;obtain⟨_,_,_,rfl⟩:=hv;obtain⟨m,rfl⟩:∃m,d0=m+1:=⟨d0-1,by omega⟩;obtain⟨a,cap,css,Fs,R,e1,hle,Vr,hp,hcase⟩:=mS ho;refine⟨hd,E,F,css,Fs,R,⟨Le.refl _,by simp,fun n B hn=> ?_,hB⟩,hp,Vr,?_⟩
   ·grind
   ·rw[e1]
    refine N3 Vr.1 Vr.2.2.1 ?_
    grind
 ·rename_i b p _
  split at e
  case h_2=>cases e
  rename_i d0 q ys hb;simp only[ADc]at e;obtain⟨⟨q',zs⟩,e1,e⟩:=e;dsimp only at e;split at e
  case isFalse=>cases e
  rename_i hf;simp only[ADS,AEY]at e;obtain⟨rfl,e⟩:=e;have e:=AFq e;simp only[AFu]at e;obtain⟨rfl,rfl,rfl⟩:=e;obtain⟨Fs,hB,hS⟩:=h;exact done hf (UX hw hB hS.st hv (q:=q') (ys:=zs) (by simp[Hu,hb,e1])) rfl rfl rfl
 ·rename_i b p off n
  split at e
  case h_2=>cases e
  rename_i d0 q ys hb;simp only[ADc]at e;obtain⟨⟨q',zs⟩,e1,e⟩:=e;dsimp only at e;split at e
  case isFalse=>cases e
  rename_i hf;simp only[ADS,AEY]at e;obtain⟨rfl,e⟩:=e;have e:=AFq e;simp only[AFu]at e;obtain⟨rfl,rfl,rfl⟩:=e;obtain⟨Fs,hB,hS⟩:=h;exact done hf (UX hw hB hS.st hv (q:=q') (ys:=(zs.drop off).take n) (by simp[Hu,hb,e1])) rfl rfl rfl
 simp_all
theorem XC{E:Env}{w:World}{vw bx:List Bx}{G:AAF}(h:BR E w vw bx G)(hw:Cf bx vw){x:AV}{v:Value}(hv:VR E w vw x v){r:Ty}{rows:List r.D}{K6:List Bx}{d:Nat}
  (e:bT bx x=some ⟨r,rows,K6,d⟩):1≤d∧ ∃F1 F2,DR E w vw bx G E K6 (F1++F2)∧Ow w E.S d (.sl r) [v] rows F1:=by
 have tk:∀{b d0:Nat} {q:Ty} {ys:List q.D},bx[b]? =some (.sl d0 q ys)→ ∃F,1≤d0∧Ow w E.S d0 (.sl q) [E.EK b] ys F∧DR E w vw bx G E (bx.set b .dead) F:=by
  intro b d0 q ys hb;obtain⟨F,⟨hd,ho⟩,hB⟩:=h.take hb;refine⟨F,hd,ho,⟨Le.refl _,by simp,fun n B hn=> ?_,hB⟩⟩;grind
 unfold bT at e;split at e
 ·rename_i b
  split at e
  case h_2=>cases e
  rename_i d0 q ys hb;simp only[ADS,AEY]at e;obtain⟨rfl,e⟩:=e;have e:=AFq e;simp only[AFu]at e;obtain⟨rfl,rfl,rfl⟩:=e;obtain⟨F,hd,ho,hT⟩:=tk hb;have hvw:=Ti hw hb;simp only[VR,hvw,Bc,ADS]at hv;obtain⟨_,_,_,rfl⟩:=hv;exact⟨hd,F,[],by simp_all,ho⟩
 ·rename_i b off n
  split at e
  case h_2=>cases e
  rename_i d0 q ys hb;simp only[ADS,AEY]at e;obtain⟨rfl,e⟩:=e;have e:=AFq e;simp only[AFu]at e;obtain⟨rfl,rfl,rfl⟩:=e;obtain⟨F,hd,ho,hT⟩:=tk hb;have hvw:=Ti hw hb;simp only[VR,hvw,Bc,ADS]at hv;obtain⟨_,_,q',zs,a,len,cap,h1,h2,h3,rfl⟩:=hv;simp only[DK,ADS,AEY]at h1;obtain⟨rfl,h1⟩:=h1;obtain rfl:=AFq h1;rw[h3]at ho;obtain⟨m,rfl⟩:∃m,d0=m+1:=⟨d0-1,by omega⟩;obtain⟨F1,F2,hp,kf⟩:=pX ho h2;exact⟨hd,F1,F2,⟨hT.le,hT.len,hT.within,hT.boxes.perm (AGb _ hp)⟩,kf⟩
 simp_all
end Go.Fw
end
section
namespace Go.Fw
theorem eR{P:Program}{w:World}{a:Option Addr}{n cap size:Nat}{css:List (List Value)}(hl:css.length=n)(hc:∀c∈css,c.length=size)
  (h:n=0∨ ∃b o,a=some ⟨b,o,none⟩∧BA w b o css.flatten):∀w',w'.heap=w.heap→(Builtin.firstCells size n (.slice a n cap)).run P w' = .ok css.flatten.toArray w':=
 (N3 (P:=P) (cap:=cap) hl hc h).cells
theorem eS{z:Array Value}{n:Nat}:(Builtin.zeroCells z n).size=n*z.size:=size_zeroCells z n
section
variable{Y:Type} {P:Program} {T:FI} (hT:Cq P T) {o:Oper} {E:Env} {σ:St} {a:Act} {w:World} {k:K Y} {y:Y}
include hT
theorem aA(h:Rel E σ a w){E2:Env}{Uv:List Bx}{F Fd R:AAF}{t u ty:TypeId}{ts:Array TypeId}(jy:ts[0]? =some t)(Xe:ts[1]? =some u)
  (hu:(∃e,P.underlying u=some (.slice e))∨P.underlying u=some .string) {m:Nat} {r:Ty} (WQ:T.M4 t r=true)
  (kT:DR E w σ.bx σ.bx [] E2 Uv F) {v1 v2:Value} {drows L1:List r.D} {css:List (List Value)} {Fs:List AAF}
  (ho:Ow w E2.S (m+1) (.sl r) [v1] drows Fd) (hs:Eu w E2.S m r css L1 Fs) (hn:fD P w r.n L1.length v2 css.flatten) (hp:F.Perm (Fd++Fs.flatten++R)) (hO:drows.length+L1.length≤Ej):
  ∃v w' E',(Builtin.append_ ts ty #[v1,v2]).run P w= .ok v w'∧Rel E' { σ with bx:=Uv++[.sl (m+1) r (drows++L1)] } a w'∧LV [] E σ.bx w E' (Uv++[.sl (m+1) r (drows++L1)]) w'∧
   XR E' w' (Uv++[.sl (m+1) r (drows++L1)]) (.c (.ref Uv.length [])) v:=by
 obtain⟨e,ti,hut,Ql,vL,hby,hrow⟩:=Ik hT WQ;obtain⟨i,z,i1,i2,i3,i4,i5,hg⟩:=Ww hT Ql hrow;rw[vL]at i2;obtain⟨Fs0,hB1,Sr⟩:=kT.boxes;simp only[AFp]at Sr;have z8:∀c∈Fd,c∈F:=fun c hc=>hp.mem_iff.2 (by simp[hc])
 have hsF:∀c∈Fs.flatten,c∈F:=fun c hc=>hp.mem_iff.2 (by simp_all)
 have ndF:=(AEO.1 (hp.nodup_iff.1 (AEO.1 Sr.nodup).2.1)).1;have ltF:∀c∈F,c<w.heap.size:=fun c hc=>Sr.lt c (by simp_all)
 have AGP:∀c∈F,¬E2.S c:=fun c hc hS=>Sr.free c (by simp_all) (Sr.st c hS)
 have ho0:=ho;obtain⟨ad,cap,dcss,Fs1,R1,rfl,hle,hd,hp1,hcase⟩:=mS ho;have qF:css.flatten.length=L1.length*r.n:=by rw[TQ hs.2.2.1,hs.1]
 have hdl:dcss.flatten.length=drows.length*r.n:=by rw[TQ hd.2.2.1,hd.1]
 by_cases js:drows.length+L1.length≤cap
 ·rcases hcase with⟨h0,hF0⟩|⟨b,of,arr,ty0,fr,rfl,hb,LW,hunf,rfl,hc⟩
  ·
   have hd0:drows=[]:=AFv (by omega);have hs0:L1=[]:=AFv (by omega);subst hd0 hs0;have yX:css=[]:=AFv hs.1;subst yX h0;have lP:=az (P:=P) (w:=w) (ty:=ty) jy Xe hut hu i1 i2 (a:=ad) (x:=v2) (by simp_all);obtain⟨r1,r2,r3⟩:=NY h kT (w':=w) (d:=m+1) (by omega) ho0 (fun c hc=> .inl (z8 c hc)) (AEO.1 ndF).1 (fun c hc=>ltF c (z8 c hc)) (fun _ _ _=>rfl) ⟨rfl,rfl,rfl,AF2 _⟩;grind
  ·
   have WV:of+drows.length*r.n+css.flatten.length≤arr.size:=by
    have:(drows.length+L1.length)*r.n≤cap*r.n:=AGI _ js;grind
   have lP:=ei (P:=P) (w:=w) (ty:=ty) jy Xe hut hu i1 i2 (b:=b) (o:=of) hn js (Yr hb WV hunf) hs.one;have hbF:b∈F:=z8 b (by simp);have aB:∀c,c∈Fs1.flatten∨c∈Fs.flatten∨E2.S c→c≠b:=by
    grind
   have W_:∀c,c≠b→(w.setCells b (of+drows.length*r.n) css.flatten).heap[c]? =w.heap[c]?:=fun c hc=>Gj _ _ _ _ _ hc
   have hd':=hd.mono (w':=w.setCells b (of+drows.length*r.n) css.flatten) (S':=E2.S) (fun _ h=>h) (fun c hc=>W_ c (aB c (.inr (.inr hc)))) (fun c hc=>W_ c (aB c (.inl hc)));have hs':=hs.mono (w':=w.setCells b (of+drows.length*r.n) css.flatten) (S':=E2.S) (fun _ h=>h) (fun c hc=>W_ c (aB c (.inr (.inr hc)))) (fun c hc=>W_ c (aB c (.inr (.inl hc))));have XX:=hd'.append hs';have oD:BA (w.setCells b (of+drows.length*r.n) css.flatten) b of (dcss++css).flatten:=by
    grind[List.flatten_append,BA.append,XK,PO]
   have how:Ow (w.setCells b (of+drows.length*r.n) css.flatten) E2.S (m+1) (.sl r) [.slice (some ⟨b,of,none⟩) (drows.length+L1.length) cap] (drows++L1) (b::(Fs1++Fs).flatten):=by
    simp only[Ow];refine⟨_,cap,by rw[AGr],by simp_all,.inr ⟨b,of,_,ty0,fr,Fs1++Fs,rfl,F4 _ _ _ _ _ _ _ hb,by rw[F9];omega,by rw[F9];omega,rfl,XX.2.1,fun j q G hq hG=> ?_⟩⟩;have hj:=(ADa.1 hq).1;have h1:=XX.1;have qW:j<(dcss++css).length:=by omega
    refine⟨(dcss++css)[j],XX.2.2.1 _ (ADz _),fun x u hx=> ?_,XX.2.2.2 j _ _ _ (ADU qW) hq hG⟩;have hxl:=(ADa.1 hx).1;rw[XX.2.2.1 _ (ADz _)]at hxl;have:=WW (n:=r.n) (css:=dcss++css) (ex:=[]) (i:=j) XX.2.2.1 (ADU qW) hxl;rw[AFp,hx]at this;have:=oD _ _ this;grind
   have cW:(b::(Fs1++Fs).flatten)=(b::Fs1.flatten)++Fs.flatten:=by simp
   rw[cW]at how;obtain⟨r1,r2,r3⟩:=NY h kT (w':=w.setCells b (of+drows.length*r.n) css.flatten) (d:=m+1) (by omega) how (fun c hc=> .inl ((AFt.1 hc).elim (z8 c) (hsF c))) ndF
    (fun c hc=>by grind[Dn]) (fun c hc hcF=>W_ c (fun e=>hcF (e▸hbF))) (BZ _ _ _ _)
   grind
 ·
  have hold:drows.length=0∨ ∃b o,ad=some ⟨b,o,none⟩∧BA w b o dcss.flatten:=by
   grind
  have lP:=ai (P:=P) (w:=w) (ty:=ty) jy Xe hut hu i1 i4 i2 (eR (P:=P) (cap:=cap) hd.1 hd.2.2.1 hold) hn (by omega) hO (by omega);have hge:=grownCap_ge w (drows.length+L1.length) cap e
  generalize hgc:grownCap w (drows.length+L1.length) cap e=gc at lP hge
  let arr:Array Value:=dcss.flatten.toArray++css.flatten.toArray++Builtin.zeroCells z.cells (gc-(drows.length+L1.length))
  have Xm:arr.toList=(dcss++css).flatten++(Builtin.zeroCells z.cells (gc-(drows.length+L1.length))).toList:=by simp[arr]
  have hzl:z.cells.size=r.n:=by rw[←AG4,i5,FT]
  have AHf:arr.size=gc*r.n:=by
   simp only[arr,Array.size_append,List.size_toArray,eS,hzl,qF,hdl,←Nat.add_mul];simp_all
  let w':=w.drew.alloc (.cells arr e)
  have new:w'.heap[w.heap.size]? =some (.cells arr e):=by
   show(w.heap.push (.cells arr e))[w.heap.size]? =_
   simp
  have oV:∀c,c<w.heap.size→w'.heap[c]? =w.heap[c]?:=fun c hc=>J6 (w:=w) (o:= .cells arr e) hc
  have hR1:∀c∈Fs1.flatten,c∈Fd:=fun c hc=>hp1.mem_iff.2 (by simp_all)
  have hd':=hd.mono (w':=w') (S':=E2.S) (fun _ h=>h) (fun c hc=>oV c (Sr.W3 c (Sr.st c hc))) (fun c hc=>oV c (ltF c (z8 c (hR1 c hc))));have hs':=hs.mono (w':=w') (S':=E2.S) (fun _ h=>h) (fun c hc=>oV c (Sr.W3 c (Sr.st c hc))) (fun c hc=>oV c (ltF c (hsF c hc)));have XX:=hd'.append hs';have how:Ow w' E2.S (m+1) (.sl r) [.slice (some ⟨w.heap.size,0,none⟩) (drows++L1).length gc] (drows++L1) (w.heap.size::(Fs1++Fs).flatten):=
   YH new Xm XX.1 (by simp_all) (by omega) (ZH _) XX.2.1 XX.2.2.2
  rw[AGr]at how;have XD:∀c∈(Fs1++Fs).flatten,c∈Fd++Fs.flatten:=by
   grind
  have nd1:(Fs1++Fs).flatten.Nodup:=by
   grind
  have AIm:∀c∈(Fs1++Fs).flatten,c∈F:=fun c hc=>(AFt.1 (XD c hc)).elim (z8 c) (hsF c)
  obtain⟨r1,r2,r3⟩:=NY h kT (w':=w') (d:=m+1) (by omega) how (by
    simp_all) (by
    grind) (by
    grind) (fun c hc _=>oV c hc) ⟨rfl,rfl,rfl,by simp[w']⟩
  grind
end
end Go.Fw
end
section
namespace Go.Fw
theorem SI{α β:Type}{args:Array α}{f:α→β}{x y:β}(h:args.toList.map f=[x,y]):∃a b,args= #[a,b]∧f a=x∧f b=y:=by
 obtain⟨l⟩:=args
 match l,h with
 |[a,b],h=>grind
theorem Sc{α β:Type}{args:Array α}{f:α→β}{x:β}(h:args.toList.map f=[x]):∃a,args= #[a]∧f a=x:=by
 obtain⟨l⟩:=args;simp_all
section
variable{Y:Type} {P:Program} {T:FI} (hT:Cq P T) {o:Oper} {E:Env} {σ:St} {a:Act} {w:World} {k:K Y} {y:Y}
include hT
theorem ji(h:Rel E σ a w){c:Call}{x1 x2:XV}(ho:o.op= .call c)(hc:c.callee= .builtin .append)(Fh:c.args.toList.map σ.ev=[x1,x2])(e:Wp T c.argTypes σ x1 x2 k=some y):Gm P o E σ a w k y:=by
 obtain⟨o1,o2,hargs',rfl,rfl⟩:=SI Fh;have Vo:=h.ev o1;have Vl:=h.ev o2;have exec:∀{v w'},(Builtin.append_ c.argTypes o.type #[a.eval o1,a.eval o2]).run P w= .ok v w'→(execOp a.eval o).run P w= .ok (.value v) w':=by
  intro v w' hr;simp only[execOp,ho,resolve,hc,hargs',invoke,builtin,Sem.run_bind,Sem.run_pure,Result.andThen_ok,List.map_toArray,AGp,AGn,hr]
 unfold Wp at e;split at e
 case h_2=>cases e
 rename_i t u jy Xe;split at e
 case isFalse=>cases e
 rename_i hu;have hu':(∃e,P.underlying u=some (.slice e))∨P.underlying u=some .string:=by
  rw[AGH]at hu;grind[ZU,Ri]
 split at e
 ·
  rename_i z hz1 hz2;rw[hz1]at Vo;rw[hz2]at Vl;simp only[ADc]at e;obtain⟨⟨r,rows,K6,d⟩,e1,e⟩:=e;dsimp only at e;split at e
  case isFalse=>cases e
  rename_i WQ;split at e
  case isFalse=>cases e
  rename_i hO;obtain⟨hd,E',F,css,Fs,R,kT,hp,hs,hn⟩:=XB (P:=P) h.bx (Cf.refl _) Vl e1;obtain⟨m,rfl⟩:∃m,d=m+1:=⟨d-1,by omega⟩;have AEQ:a.eval o1= .slice none 0 0:=Vo;obtain⟨v,w',E3,hr,r1,r2,r3⟩:=aA hT h (ty:=o.type) jy Xe hu' WQ kT (v1:= .slice none 0 0) (Fd:=[]) (drows:=[]) cJ hs hn (R:=R) (by simp_all) (by simp_all);rw[←AEQ]at hr;simp only[AFO]at r1 r3;exact⟨_,_,_,_,_,.inl (exec hr),r1,r3,r2.any,rfl,e⟩
 ·rename_i z1 z2 hnn hz1 hz2
  rw[hz1]at Vo;rw[hz2]at Vl;simp only[ADc]at e;obtain⟨⟨r,rows,ZA,d⟩,e1,e⟩:=e;dsimp only at e;split at e
  case isFalse=>cases e
  rename_i WQ;simp only[ADc]at e;obtain⟨⟨q,srows0,Uv,ds⟩,e2,L1,e3,e⟩:=e;dsimp only at e e3;obtain⟨hqr,e4⟩:=DX e3;subst hqr;subst e4;dsimp only at e;split at e
  case isFalse=>cases e
  rename_i hO;obtain⟨hd,F1,F2,k1,ho1⟩:=XC h.bx (Cf.refl _) Vo e1;obtain⟨hds,E',F3,css,Fs,R,k2,hp,hs,hn⟩:=XB (P:=P) k1.boxes ((Cf.refl _).dr k1) Vl e2;obtain⟨m,hm⟩:∃m,min d ds=m+1:=⟨min d ds-1,by omega⟩;rw[hm]at e;obtain⟨A,W1,p1,ho1'⟩:=FJ (d:=m+1) (by omega) ho1;obtain⟨Gs,W2,p2,hs'⟩:=hs.weaken (d':=m) (by omega);have hB:=k2.boxes.perm (G':=(A++Gs.flatten++(R++F2))++(W1++W2)++[]) (by
   grind)
  obtain⟨hle,Sr⟩:=hB.share;have kT:DR E w σ.bx σ.bx [] _ Uv (A++Gs.flatten++(R++F2)):=⟨(k1.le.trans k2.le).trans hle,k2.len.trans k1.len,fun b B hb=>(k2.within b B hb).elim .inl (k1.within b B),Sr⟩;have wG:Ow w (fun c=>E'.S c∨c∈W1++W2) (m+1) (.sl q) [a.eval o1] rows A:=
   CH (fun c hc=>hc.imp (k2.le.S c) (by simp_all)) (fun _ _=>rfl) (fun _ _=>rfl) ho1'
  have zi:Eu w (fun c=>E'.S c∨c∈W1++W2) m q css srows0 Gs:=hs'.mono (fun c hc=>hc.imp id (by simp_all)) (fun _ _=>rfl) (fun _ _=>rfl);obtain⟨v,w',E3,hr,r1,r2,r3⟩:=aA hT h (ty:=o.type) jy Xe hu' WQ kT wG zi hn (AG8 _) hO;exact⟨_,_,_,_,_,.inl (exec hr),r1,r3,r2.any,rfl,e⟩
 simp_all
end
end Go.Fw
end
section
namespace Go.Fw
theorem bD{P:Program}{w:World}{b o:Nat}{ty:TypeId}{v:Value}(ht:w.there b o v.cells.toList.length)(hi:(P.info? ty).map (·.size)=some v.cells.toList.length)(h1:∀u∈v.cells.toList,u.oneCell' =true):
  (Instr.storeAt ty (.pointer (some ⟨b,o,none⟩)) v).run P w= .ok () (w.setCells b o v.cells.toList):=by
 have:=run_storeCells_cells (P:=P) b o v.cells.toList 0 w (fun j hj=>by simpa using(ht j hj).1) (fun j hj=>by simpa using(ht j hj).2) h1;cases hq:P.info? ty with
 |none=>simp_all
 |some i=>
  have hs:v.cells.size=i.size:=by simp_all
  simp only[AGo]at this;simp[Instr.storeAt,Instr.sureAddr,storeVar,sizeOf,typeInfo,hq,hs,this]
theorem Va{E E1 E':Env}{w w':World}{vw ZA K6:List Bx}{F:AAF}(b0:Nat)(k:DR E w vw vw [] E1 ZA F)(st:∀c,E.S c→E.T c)(hlen:vw.length≤K6.length)
  (iw:∀b d r rows,b≠b0→b<vw.length→K6[b]? =some (.sl d r rows)→ZA[b]? =some (.sl d r rows)) (qA:∀b,b<vw.length→E'.Du b=E1.Du b) (YR:∀b,b<vw.length→E'.EK b=E1.EK b) (hT:E'.T=E1.T) (hS:E'.S=E1.S)
  (hw:∀c,c<w.heap.size→c∉F→w'.heap[c]? =w.heap[c]?)
  (h0:∀d r rows,K6[b0]? =some (.sl d r rows)→ ∃d0 Lj,vw[b0]? =some (.sl d0 r Lj)∧
   ∀p,BU r Lj p→ ∀q ys,DK r Lj p=some ⟨q,ys⟩→BU r rows p∧(∃ix,DK r rows p=some ⟨q,ix⟩∧List.length ix=List.length ys)∧
    ∀h,Ex w (E.EK b0) p=some h→Ex w' (E'.EK b0) p=some h):M8 E w vw E' w' K6:=by
 have hB:=k.boxes;obtain⟨Fs,⟨h1,h2⟩,h3⟩:=hB;simp only[AFp]at h3;have nu:∀c,E1.T c→w'.heap[c]? =w.heap[c]?:=fun c hc=>hw c (h3.W3 c hc) fun hf=>h3.free c (by simp[hf]) hc
 refine⟨hlen,fun b hb=>by rw[qA b hb,k.le.Du],fun c hc=>by rw[hT];exact k.le.T c hc,fun c hc=>by rw[hS];exact k.le.S c hc,st,fun c hc=>nu c (k.le.T c hc),fun b d r rows hb e=> ?_⟩;by_cases hb0:b=b0
 ·simp_all
 have e1:=iw b _ _ _ hb0 hb e;rcases k.within b _ e1 with e2|e2
 ·cases e2
 ·refine⟨d,rows,e2,fun p hp q ys hg=>⟨hp,⟨ys,hg,rfl⟩,fun h' hh=> ?_⟩⟩
  have hF:Fs[b]? =some (Fs[b]'(by grind)):=ADU _;obtain⟨hd,ho⟩:=h2 b _ _ e1 hF;rw[YR b hb];rw[←k.le.EK]at hh;refine gl ho (fun c hc=>nu c (h3.st c hc)) (fun c hc=> ?_) hp hg hh;have XD:c∈Fs.flatten:=AFz.2 ⟨_,AFB hF,hc⟩;exact hw c (h3.lt c (by simp[XD])) fun hf=>(AEO.1 h3.nodup).2.2 c XD c hf rfl
def Bx.map(f:AV→AV):Bx→Bx
 | .mem cs=> .mem (cs.map f)
 |B=>B
theorem BR.ABa{E E':Env}{w w':World}{vw vw' bx:List Bx}{G:AAF}(f:AV→AV)(h:BR E w vw bx G)(k:∀x v,VR E w vw x v→VR E' w' vw' (f x) v)
  (hS:∀c,E.S c→E'.S c) (qA:∀b,b<bx.length→E'.Du b=E.Du b) (YR:∀b,b<bx.length→E'.EK b=E.EK b)
  (hw:∀c,(E.S c∨(¬E.T c∧c∉G))→c<w.heap.size→w'.heap[c]? =w.heap[c]?)
  (oU:∀F,Sep E w (F++G)→Sep E' w' (F++G)):BR E' w' vw' (bx.map (Bx.map f)) G:=by
 obtain⟨Fs,⟨hl,h1⟩,h2⟩:=h;refine⟨Fs,⟨by simp_all,fun n B F hn hF=> ?_⟩,oU _ h2⟩;rw[AFr,ADV]at hn;obtain⟨B,hn,rfl⟩:=hn;have RF:=(ADa.1 hn).1;have h3:=h1 n B F hn hF;have xu:∀c∈F,c∈Fs.flatten:=fun c hc=>AFz.2 ⟨F,AFB hF,hc⟩
 have hFw:∀c∈F,w'.heap[c]? =w.heap[c]?:=fun c hc=>hw c (.inr ⟨h2.free c (by simp_all),fun hg=>by
  have:=(AEO.1 h2.nodup).2.2 c (xu c hc) c hg;omega⟩) (h2.lt c (by simp_all))
 have gV:∀c,E.S c→w'.heap[c]? =w.heap[c]?:=fun c hc=>hw c (.inl hc) (h2.W3 c (h2.st c hc))
 cases B with
 |mem cs=>
  obtain⟨rfl,arr,ty,fr,ha,hu,hv⟩:=h3;refine⟨by simp_all,arr,ty,fr,?_,hu,A5.GQ f k hv⟩;simp_all
 |sl d r rows=>
  obtain⟨hd,ho⟩:=h3;refine⟨hd,?_⟩;grind[CH]
 |dead=>exact h3
theorem Bx.map_id:∀B:Bx,Bx.map id B=B
 | .mem cs=>by simp[Bx.map]
 | .sl _ _ _=>rfl
 | .dead=>rfl
theorem Uc(bx:List Bx):bx.map (Bx.map id)=bx:=by
 induction bx with
 |nil=>rfl
 |cons B l ih=>simp[ih,Bx.map_id]
theorem aC(b:Nat)(bx:List Bx):bx.map (mM b)=bx.map (Bx.map (FC b)):=by
 rfl
theorem nF{E:Env}{σ:St}{a:Act}{w:World}(h:Rel E σ a w){b j:Nat}{cs Wd:List AV}(hb:σ.bx[b]? =some (.mem cs)){xs:List AV}{vs:List Value}(hx:X7 E w σ.bx xs vs)(aB:xs≠[])
  (e:Sg cs j xs=some Wd):
  w.there (E.Du b) j vs.length∧Rel E { σ with bx:=σ.bx.set b (.mem Wd) } a (w.setCells (E.Du b) j vs)∧LV [b] E σ.bx w E (σ.bx.set b (.mem Wd)) (w.setCells (E.Du b) j vs):=by
 have st:=h.bx.st;obtain⟨F,⟨rfl,arr,ty,fr,ha,hu,hv⟩,hB⟩:=h.bx.take hb;simp only[AFp]at hB;have RF:=(ADa.1 hb).1;rcases SY hv hx e with⟨h1,h2⟩|⟨h1,_⟩
 case inr=>simp_all
 have WV:j+vs.length≤arr.size:=by
  have l1:=A5.len hv;have l2:=A5.len hx;simp_all
 have Vj: ¬E.T (E.Du b):=hB.oX _ (by simp);have hB0:=hB;have W_:∀c,c≠E.Du b→(w.setCells (E.Du b) j vs).heap[c]? =w.heap[c]?:=fun c hc=>Gj _ _ _ _ _ hc
 have hw:∀c,c<w.heap.size→c∉[E.Du b]→(w.setCells (E.Du b) j vs).heap[c]? =w.heap[c]?:=fun c _ hc=>W_ c (by simp_all)
 have kT:DR E w σ.bx σ.bx [] E (σ.bx.set b .dead) [E.Du b]:=⟨Le.refl _,by simp,fun n B hn=>by
  grind,by simp_all⟩
 have keep:M8 E w σ.bx E (w.setCells (E.Du b) j vs) (σ.bx.set b (.mem Wd)):=Va b kT st (by simp) (fun n d r rows hn _ hq=>by
   grind) (fun _ _=>rfl) (fun _ _=>rfl) rfl rfl hw (fun d r rows hq=>by
   simp_all)
 refine⟨Yr ha WV hu,⟨h.ID,h.tm.imp fun _ _ hq=>JS keep hq,?_⟩,⟨⟨fun _ h=>h,fun _ h=>h,fun _ h=> .inl h,fun _ h=> .inl h,fun c hc=>W_ c (fun e=>Vj (e▸hc)),(BZ _ _ _ _).os,(BZ _ _ _ _).tape,(BZ _ _ _ _).output,(BZ _ _ _ _).size⟩,by simp,fun _ _=>⟨rfl,rfl⟩,fun n hn=>by
  grind,fun n B B' gW hB Nt mu=>by
  simp at gW;rw[AFx (fun e=>gW e.symm),hB]at Nt;cases Nt;refine⟨Pl.refl mu,fun c hc=>W_ c (fun e=> ?_)⟩;obtain⟨Fs,⟨f1,f2⟩,f3⟩:=hB0;have Sr:(σ.bx.set b .dead)[n]? =some B:=by grind
  have hF:Fs[n]? =some (Fs[n]'(by grind)):=ADU _;rcases Wj (f2 n B _ Sr hF) hc with hs|hs
  ·simp_all
  ·exact(AEO.1 f3.nodup).2.2 c (AFz.2 ⟨_,AFB hF,hs⟩) (E.Du b) (by simp) e⟩⟩
 have hT:=hB.turn (E':=E) (w':=w.setCells (E.Du b) j vs) (vw':=σ.bx.set b (.mem Wd)) (fun x v hq=>C2 keep hq) (fun _ h=>h) (fun _ _=>rfl) (fun _ _=>rfl) (fun c hc _=>W_ c (fun e=>by
   simp_all)) (fun F hF=>⟨hF.nodup,hF.free,fun c hc=>by rw[Dn];exact hF.lt c hc,hF.st,fun c hc=>by rw[Dn];exact hF.W3 c hc⟩)
 have:=BR.put (b:=b) (B:= .mem Wd) (F:=[E.Du b]) (G:=[]) (by simpa using hT) (by simp_all) ⟨rfl,C1 arr j vs,ty,fr,F4 _ _ _ _ _ _ _ ha,by rw[F9];omega,h1.imp fun _ _ hq=>C2 keep hq⟩;simp_all
theorem Rk:∀{r:Ty} {j j':Nat} {x:r.D} {t:Ty} {y:t.D} {x':r.D},B4 r j x t y=some x'→j'≠j→Af r j' x' =Af r j' x
 | .cons c r,0,j',x,t,y,x',e,hj=>by
  simp only[B4]at e;split at e
  ·rename_i h
   subst h;simp only[ADS]at e;subst e;cases j' with
   |zero=>omega
   |succ j' =>rfl
  simp_all
 | .cons c r,j+1,j',x,t,y,x',e,hj=>by
  simp only[B4,ADV]at e;obtain⟨z,e1,rfl⟩:=e;cases j' with
  |zero=>rfl
  |succ j' =>
   simp only[Af];exact Rk e1 (by omega)
 | .unit,_,_,_,_,_,_,e,_=>by rfl
 | .int k,0,j',x,t,y,x',e,hj=>by cases j' with
  |zero=>omega
  |succ j' =>rfl
 | .bool,0,j',x,t,y,x',e,hj=>by cases j' with
  |zero=>omega
  |succ j' =>rfl
 | .str,0,j',x,t,y,x',e,hj=>by cases j' with
  |zero=>omega
  |succ j' =>rfl
 | .sl _,0,j',x,t,y,x',e,hj=>by cases j' with
  |zero=>omega
  |succ j' =>rfl
 | .int _,_+1,_,_,_,_,_,e,_=>by simp[B4]at e
 | .bool,_+1,_,_,_,_,_,e,_=>by simp[B4]at e
 | .str,_+1,_,_,_,_,_,e,_=>by simp[B4]at e
 | .sl _,_+1,_,_,_,_,_,e,_=>by simp[B4]at e
theorem O3:∀{r:Ty} {j:Nat} {x:r.D} {t:Ty} {y:t.D} {x':r.D},B4 r j x t y=some x'→Af r j x' =some ⟨t,y⟩∧ ∃y0:t.D,Af r j x=some ⟨t,y0⟩
 | .cons c r,0,x,t,y,x',e=>by
  simp only[B4]at e;split at e
  ·rename_i h
   subst h;simp only[ADS]at e;subst e;exact⟨rfl,_,rfl⟩
  simp_all
 | .cons c r,j+1,x,t,y,x',e=>by
  simp only[B4,ADV]at e;obtain⟨z,e1,rfl⟩:=e;simp only[Af];exact O3 e1
 | .unit,_,_,_,_,_,e=>by simp[B4]at e
 | .int k,0,x,t,y,x',e=>by
  simp only[B4]at e;split at e
  ·rename_i h;subst h;cases e;exact⟨rfl,_,rfl⟩
  simp_all
 | .bool,0,x,t,y,x',e=>by
  simp only[B4]at e;split at e
  ·rename_i h;subst h;cases e;exact⟨rfl,_,rfl⟩
  simp_all
 | .str,0,x,t,y,x',e=>by
  simp only[B4]at e;split at e
  ·rename_i h;subst h;cases e;exact⟨rfl,_,rfl⟩
  simp_all
 | .sl _,0,x,t,y,x',e=>by
  simp only[B4]at e;split at e
  ·rename_i h;subst h;cases e;exact⟨rfl,_,rfl⟩
  simp_all
 | .int _,_+1,_,_,_,_,e=>by simp[B4]at e
 | .bool,_+1,_,_,_,_,e=>by simp[B4]at e
 | .str,_+1,_,_,_,_,e=>by simp[B4]at e
 | .sl _,_+1,_,_,_,_,e=>by simp[B4]at e
theorem ZI{r:Ty}{rows:List r.D}{i k:Nat}{x:r.D}(hi:i<rows.length):rowAt r (rows.set i x) k=if k=i then x else rowAt r rows k:=by
 unfold rowAt;grind
theorem dX:∀{p:List Y_} {r:Ty} {rows BG:List r.D} {q:Ty} {ys ix:List q.D},DK r rows p=some ⟨q,ys⟩→ix.length=ys.length→bL r rows p q ix=some BG→BG.length=rows.length
 |[],r,rows,BG,q,ys,ix,h1,h2,h3=>by
  simp only[DK,ADS,AEY]at h1;obtain⟨rfl,h1⟩:=h1;obtain rfl:=AFq h1;simp only[bL,AG3,LN,ADS]at h3;simp_all
 |s::p,r,rows,BG,q,ys,ix,h1,h2,h3=>by
  simp only[bL]at h3;split at h3
  ·simp only[ADc,ADV]at h3
   grind
  simp_all
theorem aO{t:Ty}(ht:t.scalar=true){y:t.D}{q:Ty}{i j:Nat}:∀{p':List Y_} {r:Ty} {rows BG:List r.D} {p:List Y_} {ys:List q.D} {Uh:q.D},BU r rows p→DK r rows p=some ⟨q,ys⟩→i<ys.length→
  B4 q j (rowAt q ys i) t y=some Uh→bL r rows p q (ys.set i Uh)=some BG→BU r rows p'→ ∀q' zs,DK r rows p' =some ⟨q',zs⟩→
   BU r BG p'∧ ∃zs',DK r BG p' =some ⟨q',zs'⟩∧List.length zs' =List.length zs
 |[],r,rows,BG,p,ys,Uh,_,hg,hi,hc,hs,_,q',zs,lU=>by
  simp only[DK,ADS,AEY]at lU;obtain⟨rfl,lU⟩:=lU;obtain rfl:=AFq lU;exact⟨by simp[BU],BG,by rfl,dX hg (by simp) hs⟩
 |s'::p',r,rows,BG,p,ys,Uh,hp,hg,hi,hc,hs,wD,q',zs,lU=>by
  have hlen:=dX hg (by simp) hs;simp only[BU]at wD⊢;obtain⟨g1,g2,g3⟩:=wD;simp only[DK]at lU⊢;split at lU
  case h_2=>cases lU
  rename_i q0 x0 XY;rw[XY]at g3;dsimp only at g3;have key:∃x1,Af r s'.j (rowAt r BG s'.i)=some ⟨.sl q0,x1⟩∧BU q0 x1 p'∧ ∃zs',DK q0 x1 p' =some ⟨q',zs'⟩∧List.length zs' =List.length zs:=by
   have same:Af r s'.j (rowAt r BG s'.i)=some ⟨.sl q0,x0⟩→ ∃x1,Af r s'.j (rowAt r BG s'.i)=some ⟨.sl q0,x1⟩∧BU q0 x1 p'∧ ∃zs',DK q0 x1 p' =some ⟨q',zs'⟩∧List.length zs' =List.length zs:=
    fun h=>⟨x0,h,g3,zs,lU,rfl⟩
   cases p with
   |nil=>
    simp only[DK,ADS,AEY]at hg;obtain⟨rfl,hg⟩:=hg;obtain rfl:=AFq hg;simp only[bL,AG3,LN,ADS]at hs;subst hs;apply same;rw[ZI hi];split
    ·rename_i e
     subst e;by_cases ej:s'.j=j
     ·obtain⟨_,y0,h0⟩:=O3 hc
      rw[ej,h0]at XY;simp only[ADS,AEY]at XY;obtain⟨rfl,_⟩:=XY;simp[Ty.scalar]at ht
     grind[Rk]
    omega
   |cons s p=>
    simp only[BU]at hp;obtain⟨k1,k2,k3⟩:=hp;simp only[DK]at hg;split at hg
    case h_2=>cases hg
    rename_i r' x hcx;rw[hcx]at k3;dsimp only at k3;simp only[bL,hcx,ADc,ADV]at hs;obtain⟨x',vL,row2,zi,rfl⟩:=hs;rw[ZI k1];rw[ZI k1]at same;split
    ·rename_i e
     rw[ADW e]at same;rw[e]at XY;by_cases ej:s'.j=s.j
     ·rw[ej]at XY⊢
      rw[hcx]at XY;simp only[ADS,AEY,Ty.sl.injEq]at XY;obtain⟨rfl,XY⟩:=XY;obtain rfl:=AFq XY;obtain⟨m1,m2⟩:=aO ht k3 hg hi hc vL g3 q' zs lU;grind[O3]
     grind[Rk]
    simp_all
  grind
theorem fc{w w':World}{B:Nat→Prop}(Uj:∀A,w'.cell? A=w.cell? A∨ ∃v,w'.cell? A=some v∧isSlice v=false):∀{p:List Y_} {r:Ty} {h:Value} {rows:List r.D} {hh:Value},
  Rd w' B (.sl r) [h] rows→BU r rows p→Ex w h p=some hh→Ex w' h p=some hh
 |[],_,h,_,hh,_,_,e=>by grind[Bc]
 |s::p,r,h,rows,hh,hr,hp,e=>by
  simp only[BU]at hp;obtain⟨hi,LW,hp⟩:=hp;simp only[Rd]at hr;obtain⟨a,cap,e1,_,hr⟩:=hr;obtain rfl:=(List.cons.inj e1).1;rcases hr with hr|⟨b,o,rfl,hb,hr⟩
  ·omega
  obtain⟨cs,hl,hc,hrow⟩:=hr s.i _ (LJ hi);split at hp
  case h_2=>exact hp.elim
  rename_i q x XY;obtain⟨v,hv,hrv⟩:=Wh hrow XY;have vk:=hc _ _ hv;rw[←LW]at vk;simp only[Ex]at e⊢;split at e
  case h_2=>cases e
  rename_i v0 hv0;rcases Uj ⟨b,o+s.i*s.sz+s.j,none⟩with h1|⟨u,h1,h2⟩
  ·rw[h1,hv0]
   rw[h1,hv0]at vk;cases vk;exact fc Uj hrv hp e
  ·rw[vk]at h1
   cases h1;simp only[Rd]at hrv;obtain⟨_,_,e2,_⟩:=hrv;simp only[AFW,AGN]at e2;grind[isSlice]
theorem oY{E E':Env}{w w':World}{vw vw':List Bx}{b d d':Nat}{r:Ty}{rows BG:List r.D}(k:M8 E w vw E' w' (vw'.set b .dead))(hb:vw[b]? =some (.sl d r rows))(l8:vw'[b]? =some (.sl d' r BG))(hl:BG.length=rows.length)
  (hh:E'.EK b=E.EK b) {x:AV} {v:Value} (h:VR E w vw x v):VR E' w' vw' (FC b x) v:=by
 have h1:=C2 k h;have W_:∀{b'},b'≠b→(vw'.set b .dead)[b']? =vw'[b']?:=fun e=>AFx (fun h=>e h.symm)
 cases x with
 |v t x=>exact h1
 |sl s r x=>exact h1
 |nil=>exact h1
 |EN c j=>exact⟨by simpa using h1.1,h1.2⟩
 |Jj s r x j=>exact h1
 |fn f Fj=>exact⟨fun c hc=>by simpa using h1.1 c hc,h1.2⟩
 |gU f rows=>exact h1
 |l5=>exact h1
 |undef=>trivial
 |ref c p=>
  cases p with
  |nil=>
   simp only[FC];by_cases e:c=b
   ·subst e
    simp only[VR,hb,l8]at h⊢;refine⟨h.1,by simp[BU],⟨_,rfl⟩,?_⟩;grind[Bc]
   grind[VR]
  |cons s p=>
   grind[FC,VR]
 |win c p off n=>
  cases p with
  |nil=>
   simp only[FC];by_cases e:c=b
   ·subst e
    simp only[VR,hb,l8]at h⊢;obtain⟨h0,_,q,ys,a,len,cap,e1,e2,e3,e4⟩:=h;simp only[DK,ADS,AEY]at e1;obtain⟨rfl,e1⟩:=e1;obtain rfl:=AFq e1;refine⟨h0,by simp[BU],r,BG,a,len,cap,rfl,by omega,?_,e4⟩;grind[Bc]
   grind[VR]
  |cons s p=>
   grind[FC,VR]
 |E7 c p i sz j=>
  cases p with
  |nil=>
   simp only[FC];by_cases e:c=b
   ·subst e
    simp only[VR,hb,l8]at h⊢;obtain⟨h0,_,q,ys,bb,o,len,cap,e1,e2,e3,e4⟩:=h;simp only[DK,ADS,AEY]at e1;obtain⟨rfl,e1⟩:=e1;obtain rfl:=AFq e1;refine⟨h0,by simp[BU],r,BG,bb,o,len,cap,rfl,by omega,?_,e4⟩;grind[Bc]
   grind[VR]
  |cons s p=>
   grind[FC,VR]
theorem pC{E E':Env}{w w':World}{vw vw':List Bx}{b:Nat}(k:∀x v,VR E w vw x v→VR E' w' vw' (FC b x) v){x:XV}{v:Value}(h:XR E w vw x v):XR E' w' vw' (iP b x) v:=by
 cases x with
 |c x=>exact k x v h
 |agg l=>
  obtain⟨vs,rfl,RQ⟩:=h;exact⟨vs,rfl,A5.GQ _ k RQ⟩
 |LI l=>
  obtain⟨vs,rfl,RQ⟩:=h;refine⟨vs,rfl,A5.GQ _ (fun x v hx=> ?_) RQ⟩;cases x with
  |inl x=>exact k x v hx
  |inr q=>
   obtain⟨us,rfl,hus⟩:=hx;exact⟨us,rfl,A5.GQ _ k hus⟩
end Go.Fw
end
section
namespace Go.Fw
theorem cA{w:World}{vw:List Bx}{E:Env}{bx:List Bx}{G:AAF}(h:BR E w vw bx G)(hw:Cf bx vw){d:Nat}(hd:1≤d){q:Ty}{y_:q.D}{j:Nat}{x:XV}{v:Value}(hv:XR E w vw x v){Uh:q.D}{K6:List Bx}{d':Nat}
  (e:cF d q y_ j x bx=some (Uh,K6,d')):1≤d'∧d'≤d∧ ∃E' F,DR E w vw bx G E' K6 F∧
   ((j=0∧x.plain=false∧Ow w E'.S (d'-1) q v.cells.toList Uh F)∨(∃t y,v.cells.toList=[v]∧Ow w E'.S (d'-1) t [v] y F∧B4 q j y_ t y=some Uh∧(x.plain=true→t.scalar=true∧isSlice v=false))):=by
 unfold cF at e;split at e
 ·rename_i l
  split at e
  case isFalse=>cases e
  rename_i hj;obtain⟨vs,rfl,RQ⟩:=hv;obtain⟨h1,h2,E',F,h3,h4⟩:=UD h hw hd RQ e;exact⟨h1,h2,E',F,h3,.inl ⟨hj,rfl,h4⟩⟩
 ·rename_i x
  split at e
  case h_2=>cases e
  rename_i t y0 hc;simp only[ADc,ADV,AFu]at e;obtain⟨⟨y,ZA,d1⟩,e1,row,e2,rfl,rfl,rfl⟩:=e;dsimp only at e2;have Vs:VR E w vw x v:=hv;have hk:x.known=true:=by grind[AV.known,WJ]
  obtain⟨h1,h2,E',F,h3,h4⟩:=Uy h hw hd Vs e1;refine⟨h1,h2,E',F,h3,.inr ⟨t,y,by rw[(ib Vs hk).2],h4,e2,fun hp=> ?_⟩⟩;cases x with
  |v u z=>
   simp only[WJ,ADV,AFu]at e1;obtain⟨z',e3,_⟩:=e1;obtain⟨rfl,_⟩:=DX e3;obtain⟨hs,hr⟩:=Vs;refine⟨hs,?_⟩;cases u<;>simp_all[Ty.scalar,Rd]<;>rfl
  |_=>simp[XV.plain]at hp
 simp_all
theorem eH{f:AV→AV}{bx:List Bx}{b d:Nat}{r:Ty}{rows:List r.D}:(bx.set b (.sl d r rows)).map (Bx.map f)=(bx.map (Bx.map f)).set b (.sl d r rows):=by
 rw[List.map_set];rfl
theorem om{f:AV→AV}{bx:List Bx}{n d:Nat}{r:Ty}{rows:List r.D}(h:(bx.map (Bx.map f))[n]? =some (.sl d r rows)):bx[n]? =some (.sl d r rows):=by
 rw[AFr,ADV]at h;obtain⟨B,h1,h2⟩:=h;cases B with
 |mem cs=>simp[Bx.map]at h2
 |sl d' r' BG=>rw[h1];exact congrArg some h2
 |dead=>simp[Bx.map]at h2
theorem gZ{E:Env}{σ:St}{a:Act}{w:World}(h:Rel E σ a w){b i sz j:Nat}{p:List Y_}{va v:Value}(vu:VR E w σ.bx (.E7 b p i sz j) va){x:XV}(hv:XR E w σ.bx x v)(h1c:∀u∈v.cells.toList,u.oneCell' =true)
  {σ':St} (e:X4 σ (.c (.E7 b p i sz j)) x=some σ'):
  ∃bb oo E',va= .pointer (some ⟨bb,oo,none⟩)∧w.there bb oo v.cells.toList.length∧Rel E' σ' a (w.setCells bb oo v.cells.toList)∧LV [b] E σ.bx w E' σ'.bx (w.setCells bb oo v.cells.toList)∧σ'.tm.length=σ.tm.length:=by
 simp only[X4]at e;split at e
 case h_2=>cases e
 rename_i d r rows hb;split at e
 case isFalse=>cases e
 rename_i hpl;simp only[ADc]at e;obtain⟨⟨q,ys⟩,hg,e⟩:=e;dsimp only at e;split at e
 case isFalse=>cases e
 rename_i LW;simp only[ADc,ADV]at e;obtain⟨⟨Uh,Uv,d2⟩,e1,BG,e2,e3⟩:=e;dsimp only at e1 e2 e3;have st:=h.bx.st;simp only[VR,hb]at vu;obtain⟨_,hp,q1,ys1,bb,o,len,cap,g1,hi,g3,rfl⟩:=vu;rw[hg]at g1;simp only[ADS,AEY]at g1;obtain⟨rfl,g1⟩:=g1;obtain rfl:=AFq g1;have RF:=(ADa.1 hb).1;obtain⟨Gb,⟨hd1,ho⟩,hB⟩:=h.bx.take hb;have U0:Cf (σ.bx.set b .dead) σ.bx:=fun n B hn=>by
  grind
 obtain⟨hd2,hd3,E1,Fx,k1,hrow⟩:=cA hB U0 (by omega) hv e1;obtain⟨A,W,pG,wG⟩:=FJ (d:=d2+p.length) (by omega) ho;have Sr:=k1.boxes.perm (G':=(Fx++A)++W++[]) (by
  grind)
 obtain⟨hle,hB3⟩:=Sr.share;simp only[AFp]at hB3
 generalize hE3:({ E1 with S:=fun c=>E1.S c∨c∈W,T:=fun c=>E1.T c∨c∈W }:Env)=E3 at hle hB3
 have eI:Le E E3:=k1.le.trans hle;have ho3:Ow w E3.S (d2+p.length) (.sl r) [E.EK b] rows A:=CH (fun c hc=>by
  subst hE3;exact hc.imp (k1.le.S c) id) (fun _ _=>rfl) (fun _ _=>rfl) wG
 obtain⟨h',F1,F2,m1,m2,m3,m4⟩:=YF ho3 hp hg (by omega);rw[g3]at m1;cases m1;obtain⟨m,rfl⟩:∃m,d2=m+1:=⟨d2-1,by omega⟩;rw[show m+1+p.length-p.length=m+1 by omega]at m2 m4;simp only[Nat.add_sub_cancel]at hrow;obtain⟨b1,o1,arr,ty,fr,cs,G,R,n1,n2,n3,n4,n5,n6,n7,n8,n9⟩:=gz m2 hi;simp only[ADS,Addr.mk.injEq,AGN]at n1;obtain⟨rfl,rfl⟩:=n1;subst LW;have hAp:A.Perm (G++(bb::R)++F2):=m3.trans (n8.append_right F2);obtain⟨Fs,hFs1,hFs2⟩:=hB3;have hbA:bb∈A:=hAp.mem_iff.2 (by simp);have Vj: ¬E3.T bb:=hFs2.free bb (by simp[hbA]);have l4: ¬E3.S bb:=fun hc=>Vj (hFs2.st bb hc)
 have nd:(Fx++(G++(bb::R)++F2)).Nodup:=(AGt Fx hAp).nodup_iff.1 (AEO.1 hFs2.nodup).2.1;have hnx:bb∉Fx:=fun hc=>(AEO.1 nd).2.2 bb hc bb (by simp) rfl
 have hnG:bb∉G:=fun hc=>(AEO.1 (AEO.1 (AEO.1 nd).2.1).1).2.2 bb hc bb (by simp) rfl
 have hnR:bb∉R:=(AG5.1 (AEO.1 (AEO.1 (AEO.1 nd).2.1).1).2.1).1;have hn2:bb∉F2:=fun hc=>(AEO.1 (AEO.1 nd).2.1).2.2 bb (by simp) bb hc rfl
 have qF:j+v.cells.toList.length≤q.n:=by
  rcases hrow with⟨rfl,_,ho4⟩|⟨t,y,hc1,ho4,Ul,_⟩
  ·rw[Rc ho4];omega
  ·rw[hc1]
   obtain⟨_,y0,yX⟩:=O3 Ul;grind[Wu,List.getElem?_eq_some_iff]
 have WV:o+i*q.n+j+v.cells.toList.length≤arr.size:=by omega
 let w':=w.setCells bb (o+i*q.n+j) v.cells.toList
 have W_:∀c,c≠bb→w'.heap[c]? =w.heap[c]?:=fun c hc=>Gj _ _ _ _ _ hc
 have gV:∀c,E3.S c→w'.heap[c]? =w.heap[c]?:=fun c hc=>W_ c (fun e=>l4 (e▸hc))
 have l8:=F4 v.cells.toList (o+i*q.n+j) w bb arr ty fr n2;have Uj:∃Wd G' D0,Wd.length=q.n∧BA w' bb (o+i*q.n) Wd∧Ow w' E3.S m q Wd Uh G'∧(Fx++G).Perm (G'++D0):=by
  rcases hrow with⟨rfl,_,ho4⟩|⟨t,y,hc1,ho4,Ul,_⟩
  ·refine⟨v.cells.toList,Fx,G,Rc ho4,PO n2 WV,CH (fun c hc=>hle.S c hc) (fun c hc=>W_ c (fun e=>l4 (e▸hle.S c hc))) (fun c hc=>W_ c (fun e=>hnx (e▸hc))) ho4,AG8 _⟩
  ·obtain⟨_,y0,yX⟩:=O3 Ul
   obtain⟨u,K1,K2,z1,z2,z3,z4⟩:=Wu n7 yX;have AFm:bb∉K2:=fun hc=>hnG (z3.mem_iff.2 (by simp[hc]))
   obtain⟨F',f1,f2⟩:=z4 w' E3.S v y Fx Uh (fun _ hc=>hc) gV (fun c hc=>W_ c (fun e=>AFm (e▸hc)))
    (CH (fun c hc=>hle.S c hc) (fun c hc=>W_ c (fun e=>l4 (e▸hle.S c hc))) (fun c hc=>W_ c (fun e=>hnx (e▸hc))) ho4) Ul
   refine⟨cs.set j v,F',K1,by simp_all,fun x u' hx=> ?_,f2,?_⟩
   ·rw[List.getElem?_set]at hx
    split at hx
    ·rename_i ejx
     subst ejx;split at hx
     ·cases hx
      have:=PO (w:=w) (b:=bb) (o:=o+i*q.n+j) (vs:=v.cells.toList) n2 WV 0 v (by simp_all);omega
     simp_all
    ·rename_i ejx
     have hold:=n6 x u' hx;rw[Hh n2]at hold;rw[Hh l8,RD WV,AEK (fun hh=>by grind),hold]
   grind
 obtain⟨Wd,G',D0,c1,c2,c3,c4⟩:=Uj;obtain⟨bX,f1,f2⟩:=n9 w' E3.S (C1 arr (o+i*q.n+j) v.cells.toList) Wd Uh G' (fun _ hc=>hc) gV (fun c hc=>W_ c (fun e=>hnR (e▸hc))) l8 (F9 _ _ _) (fun k hk=>by
  rw[RD WV,AEK (by omega)]) c1 c2 c3
 obtain⟨F',f3,f4⟩:=m4 w' E3.S (ys.set i Uh) bX BG (fun _ hc=>hc) gV (fun c hc=>W_ c (fun e=>hn2 (e▸hc))) f2 e2;have cW:(Fx++A).Perm (F'++D0):=by
  have p1:F'.Perm (G'++(bb::R)++F2):=f3.trans (f1.append_right F2);refine(AGt Fx hAp).trans (List.Perm.trans ?_ (p1.symm.append_right D0));grind
 have AIw:bb∈F':=(f3.trans (f1.append_right F2)).mem_iff.2 (by simp);have hB4:BR E3 w σ.bx Uv F':=by
  have:BR E3 w σ.bx Uv (F'++D0):=BR.perm (G:=Fx++A) ⟨Fs,hFs1,hFs2⟩ cW;exact this.drop
 have cl:Uv.length=σ.bx.length:=by rw[k1.len];simp
 have ACa:Uv[b]? =some .dead:=by
  obtain⟨B,hB⟩:∃B,Uv[b]? =some B:=⟨_,ADU (by omega)⟩;rcases k1.within b B hB with e|e
  all_goals simp_all
 have hrl:BG.length=rows.length:=dX hg (by simp) e2;have kT:∀E0,Le E0 E3→DR E0 w σ.bx σ.bx [] E3 Uv (Fx++A):=fun E0 hl=>⟨hl,cl,fun n B hn=>by
  rcases k1.within n B hn with e|e
  all_goals grind,⟨Fs,hFs1,by simp_all⟩⟩
 have YR:∀n,E3.EK n=E.EK n:=fun n=>by rw[eI.EK]
 have hww:∀c,c<w.heap.size→c∉Fx++A→w'.heap[c]? =w.heap[c]?:=fun c _ hc=>W_ c (fun e=>hc (by simp_all))
 have base:Wz E w E3 w':=⟨eI.T,eI.S,eI.sI,eI.kJ,fun c hc=>W_ c (fun e=>Vj (e▸eI.T c hc)),(BZ _ _ _ _).os,(BZ _ _ _ _).tape,(BZ _ _ _ _).output,(BZ _ _ _ _).size⟩;have finish:∀(f:AV→AV) (g:XV→XV),(∀E0,Le E0 E3→(∀c,E0.S c→E0.T c)→ ∀x v,VR E0 w σ.bx x v→VR E3 w' ((Uv.map (Bx.map f)).set b (.sl (m+1+p.length) r BG)) (f x) v)→
   (∀x v,XR E w σ.bx x v→XR E3 w' ((Uv.map (Bx.map f)).set b (.sl (m+1+p.length) r BG)) (g x) v)→
   Rel E3 { tm:=σ.tm.map g,bx:=(Uv.map (Bx.map f)).set b (.sl (m+1+p.length) r BG) } a w':=by
  intro f g hf hg;refine⟨h.ID,A5.GQ _ hg h.tm,?_⟩;have hT:=hB4.ABa (E':=E3) (w':=w') (vw':=(Uv.map (Bx.map f)).set b (.sl (m+1+p.length) r BG)) f (hf E3 (Le.refl _) hFs2.st) (fun _ h=>h) (fun _ _=>rfl) (fun _ _=>rfl) (fun c hc _=>W_ c (fun e=>by
    simp_all)) (fun F hF=>⟨hF.nodup,hF.free,fun c hc=>by rw[Dn];exact hF.lt c hc,hF.st,fun c hc=>by rw[Dn];exact hF.W3 c hc⟩)
  refine BR.put (F:=F') (G:=[]) (by simp_all) (by rw[AFr,ACa];rfl) ⟨by omega,?_⟩;simp_all
 have ABe:∀f:AV→AV,LV [b] E σ.bx w E3 ((Uv.map (Bx.map f)).set b (.sl (m+1+p.length) r BG)) w':=fun f=>⟨base,by simp[cl],fun n _=>⟨by rw[eI.Du],YR n⟩,fun n hn=>by
  have gW:n≠b:=fun e=>by simp_all
  have nJ:=(ADa.1 hn).1;rw[AFx (fun e=>gW e.symm),AFr];obtain⟨B,hB⟩:∃B,Uv[n]? =some B:=⟨_,ADU (by omega)⟩;have hBd:B= .dead:=by
   rcases(kT E eI).within n B hB with e|e
   all_goals simp_all
  rw[hB,hBd];rfl,fun n B B' gW hB Nt mu=>by
  simp at gW;have nJ:=(ADa.1 hB).1;rw[AFx (fun e=>gW e.symm),AFr]at Nt;obtain⟨B2,Sr⟩:∃B2,Uv[n]? =some B2:=⟨_,ADU (by omega)⟩;rw[Sr]at Nt;have Nt:Bx.map f B2=B':=by simp_all
  have hBB:B2=B:=by
   rcases(kT E eI).within n B2 Sr with e|e
   ·subst e;exact absurd Nt.symm mu
   simp_all
  subst hBB;refine⟨?_,fun c hc=>W_ c (fun e=> ?_)⟩
  ·subst Nt
   cases B2 with
   |mem cs=>trivial
   |sl d r rows=>rfl
   |dead=>exact absurd rfl mu
  ·have hF:Fs[n]? =some (Fs[n]'(by have:=(ADa.1 Sr).1;rw[hFs1.1];omega)):=ADU _
   have Vy:kH E3 w n B2 c:=by
    cases B2 with
    |mem cs=>simp only[kH]at hc⊢;rw[eI.Du];omega
    |sl d r rows=>grind[kH]
    |dead=>exact hc
   rcases Wj (hFs1.2 n B2 _ Sr hF) Vy with hs|hs
   ·simp_all
   ·exact(AEO.1 hFs2.nodup).2.2 c (AFz.2 ⟨_,AFB hF,hs⟩) bb (by simp[hbA]) e⟩
 refine⟨bb,o+i*q.n+j,E3,rfl,Yr (k:=0) n2 WV n3,?_,?_,?_⟩
 ·split at e3
  ·rename_i AEw
   have h0:∀E0,Le E0 E3→(∀c,E0.S c→E0.T c)→M8 E0 w σ.bx E3 w' (Uv.set b (.sl (m+1+p.length) r BG)):=by
    intro E0 hl st0;refine Va b (kT E0 hl) st0 (by simp[cl]) (fun n d r rows hn _ hq=>by
      grind) (fun _ _=>rfl) (fun _ _=>rfl) rfl rfl hww (fun d0 r0 Lj hq=> ?_)
    rw[AGJ (by omega)]at hq;simp only[ADS,Bx.sl.injEq]at hq;obtain⟨rfl,rfl,hq⟩:=hq;obtain rfl:=AFq hq;refine⟨d,rows,hb,fun p' wD q' zs lU=> ?_⟩;rcases hrow with⟨_,hpf,_⟩|⟨t,y,hc1,ho4,Ul,hsc⟩
    ·simp_all
    obtain⟨vL,zi⟩:=hsc AEw;have hk:=aO vL hp hg hi Ul e2 wD q' zs lU;refine⟨hk.1,hk.2,fun hh hhe=> ?_⟩;rw[YR];rw[←hl.EK,YR]at hhe;refine fc (fun Ad=> ?_) (S5 f4) hk.1 hhe;by_cases eA:Ad.block=bb∧Ad.spot=none∧Ad.off=o+i*q.n+j
    ·right
     obtain⟨ab,ao,asp⟩:=Ad;simp only at eA;rw[eA.1,eA.2.1,eA.2.2];refine⟨v,?_,zi⟩;have:=PO (w:=w) (b:=bb) (o:=o+i*q.n+j) (vs:=v.cells.toList) n2 WV 0 v (by simp_all);omega
    grind[World.cell?_setCells_out,List.length_cons,List.length_nil]
   have:=finish id id (fun E0 hl st0 x v hx=>by rw[Uc];grind[C2]) (fun x v hx=>by rw[Uc];grind[JS]);grind[Uc,List.map_id]
  ·have h0:∀E0,Le E0 E3→(∀c,E0.S c→E0.T c)→ ∀x v,VR E0 w σ.bx x v→VR E3 w' ((Uv.map (Bx.map (FC b))).set b (.sl (m+1+p.length) r BG)) (FC b x) v:=by
    intro E0 hl st0 x v hx;have keep:M8 E0 w σ.bx E3 w' (((Uv.map (Bx.map (FC b))).set b (.sl (m+1+p.length) r BG)).set b .dead):=by
     refine Va b (kT E0 hl) st0 (by simp[cl]) (fun n d r rows hn _ hq=>by
      grind[List.getElem?_set_ne,om]) (fun _ _=>rfl) (fun _ _=>rfl) rfl rfl hww (fun d0 r0 Lj hq=> ?_)
     simp_all
    exact oY keep hb (by rw[AGJ (by simp_all)]) hrl (by rw[hl.EK]) hx
   have:=finish (FC b) (iP b) h0 (fun x v hx=>pC (h0 E eI st) hx);grind[St.mE,aC,eH]
 ·rw[←e3]
  split
  all_goals grind[id,Uc,St.mE,aC,eH]
 grind[St.mE]
end Go.Fw
end
section
namespace Go.Fw
theorem ij{w w':World}{B B':Nat→Prop}:∀{r:Ty} {cs:List Value} {x:r.D},r.flat=true→Rd w B r cs x→Rd w' B' r cs x
 | .cons c r,cs,x,h,hr=>by
  simp only[Ty.flat,AEE]at h;simp only[Rd]at hr⊢;obtain⟨v,l,rfl,h1,h2⟩:=hr;exact⟨v,l,rfl,ij h.1 h1,ij h.2 h2⟩
 | .unit,_,_,_,hr=>by grind[Rd]
 | .int k,_,_,_,hr=>by grind[Rd]
 | .bool,_,_,_,hr=>by grind[Rd]
 | .str,_,_,_,hr=>by grind[Rd]
 | .sl q,_,_,h,_=>by simp[Ty.flat]at h
theorem WS{w:World}{S:Nat→Prop}{d:Nat}:∀{r:Ty} {cs:List Value} {y:r.D} {F:AAF},r.flat=true→Ow w S d r cs y F→F=[]
 | .int k,_,_,_,_,h=>by grind[Ow]
 | .bool,_,_,_,_,h=>by grind[Ow]
 | .str,_,_,_,_,h=>by grind[Ow]
 | .unit,_,_,_,_,h=>by grind[Ow]
 | .cons c r,_,_,_,hf,h=>by
  simp only[Ty.flat,AEE]at hf;simp only[Ow]at h;obtain⟨v,l,F1,F2,_,rfl,h1,h2⟩:=h;rw[WS hf.1 h1,WS hf.2 h2];rfl
 | .sl q,_,_,_,hf,_=>by simp[Ty.flat]at hf
theorem jN{w w':World}{S S':Nat→Prop}{d d':Nat}{r:Ty}(hr:r.flat=true){cs:List Value}{y:r.D}{F:AAF}(h:Ow w S d r cs y F):F=[]∧cs.length=r.n∧Ow w' S' d' r cs y []:=
 ⟨WS hr h,Rc h,bP hr (ij (B':=fun _=>False) hr (S5 h))⟩
theorem YZ:∀{r:Ty} {j:Nat} {x:r.D} {t:Ty} {y:t.D},r.flat=true→Af r j x=some ⟨t,y⟩→t.flat=true
 | .cons c r,0,x,t,y,h,e=>by
  simp only[Ty.flat,AEE]at h;simp only[Af,ADS,AEY]at e;simp_all
 | .cons c r,j+1,x,t,y,h,e=>by
  simp only[Ty.flat,AEE]at h;simp only[Af]at e;exact YZ h.2 e
 | .unit,_,_,_,_,_,e=>by simp[Af]at e
 | .int k,0,x,t,y,_,e=>by simp only[Af,ADS,AEY]at e;simp_all
 | .bool,0,x,t,y,_,e=>by simp only[Af,ADS,AEY]at e;simp_all
 | .str,0,x,t,y,_,e=>by simp only[Af,ADS,AEY]at e;simp_all
 | .sl _,_,_,_,_,h,_=>by simp[Ty.flat]at h
 | .int _,_+1,_,_,_,_,e=>by simp[Af]at e
 | .bool,_+1,_,_,_,_,e=>by simp[Af]at e
 | .str,_+1,_,_,_,_,e=>by simp[Af]at e
theorem mm{r:Ty}(hr:r.flat=true){rows:List r.D}:∀{p:List Y_},BU r rows p→p=[]
 |[],_=>rfl
 |s::p,h=>by
  simp only[BU]at h;obtain⟨_,_,h⟩:=h;exfalso;cases hc:Af r s.j (rowAt r rows s.i)with
  |none=>simp_all
  |some tx=>
   obtain⟨t,x⟩:=tx;have hf:=YZ hr hc;grind[Ty.flat]
theorem flatten_nil{l:List AAF}(h:∀x∈l,x=[]):l.flatten=[]:=by
 simp_all;omega
theorem nE{E:Env}{σ:St}{a:Act}{w:World}(h:Rel E σ a w){b d off n:Nat}{r:Ty}{rows:List r.D}(hb:σ.bx[b]? =some (.sl d r rows))(hr:r.flat=true)(hgd:r.iZ=true)(hk:0<r.n)(hl:off+n≤rows.length)(hn:0<n):
  ∃bb o cap,E.EK b= .slice (some ⟨bb,o,none⟩) rows.length cap∧rows.length≤cap∧w.there bb (o+off*r.n) (n*r.n)∧
   Rel E { σ with bx:=σ.bx.set b (.sl d r ((rows.take off++List.replicate n r.z)++rows.drop (off+n))) } a (w.setCells bb (o+off*r.n) (List.replicate n (C4 r)).flatten)∧
   LV [b] E σ.bx w E (σ.bx.set b (.sl d r ((rows.take off++List.replicate n r.z)++rows.drop (off+n)))) (w.setCells bb (o+off*r.n) (List.replicate n (C4 r)).flatten):=by
 have st:=h.bx.st;obtain⟨F,⟨hd,ho⟩,hB⟩:=h.bx.take hb;simp only[AFp]at hB;have RF:=(ADa.1 hb).1;obtain⟨d',rfl⟩:∃m,d=m+1:=⟨d-1,by omega⟩;simp only[Ow]at ho;obtain⟨ad,cap,hh,oH,ho⟩:=ho;simp only[AFW,AGN]at hh;rcases ho with⟨rfl,_⟩|⟨bb,o,arr,ty,fr,Fs,rfl,ha,LW,hu,rfl,hFl,Vr⟩
 ·omega
 have hFn:List.flatten Fs=[]:=flatten_nil fun x hx=>by
  obtain⟨i,hi,hxi⟩:=AGD hx;obtain⟨cs,_,_,h3⟩:=Vr i (rows[i]'(by omega)) x (ADU _) (by grind);exact(jN (w':=w) (S':=E.S) (d':=0) hr h3).1
 rw[hFn]at hB;have hzl:(C4 r).length=r.n:=FT r;have hvl:((List.replicate n (C4 r)).flatten).length=n*r.n:=by simp_all
 have X5:(off+n)*r.n≤cap*r.n:=AGI _ (by omega);have kK:(off+n)*r.n=off*r.n+n*r.n:=Nat.add_mul ..;have WV:o+off*r.n+((List.replicate n (C4 r)).flatten).length≤arr.size:=by omega
 generalize RQ:(List.replicate n (C4 r)).flatten=vs at hvl WV
 refine⟨bb,o,cap,hh,oH,Yr ha (by omega) hu,?_⟩;have Vj: ¬E.T bb:=hB.oX _ (by simp);have hB0:=hB;have W_:∀c,c≠bb→(w.setCells bb (o+off*r.n) vs).heap[c]? =w.heap[c]?:=fun c hc=>Gj _ _ _ _ _ hc
 have hw:∀c,c<w.heap.size→c∉[bb]→(w.setCells bb (o+off*r.n) vs).heap[c]? =w.heap[c]?:=fun c _ hc=>W_ c (by simp_all)
 have kT:DR E w σ.bx σ.bx [] E (σ.bx.set b .dead) [bb]:=⟨Le.refl _,by simp,fun n B hn=>by
  grind,by simp_all⟩
 generalize zE:(rows.take off++List.replicate n r.z)++rows.drop (off+n)=BG
 have ACm:BG.length=rows.length:=by
  grind
 have keep:M8 E w σ.bx E (w.setCells bb (o+off*r.n) vs) (σ.bx.set b (.sl (d'+1) r BG)):=Va b kT st (by simp) (fun n d r rows hn _ hq=>by
   grind) (fun _ _=>rfl) (fun _ _=>rfl) rfl rfl hw (fun d1 r1 wP hq=>by
   rw[AGJ RF]at hq;simp only[ADS,Bx.sl.injEq]at hq;obtain⟨rfl,rfl,hq⟩:=hq;obtain rfl:=AFq hq;refine⟨d'+1,rows,hb,fun p hp q ys hg=> ?_⟩;obtain rfl:=mm hr hp;simp only[DK,ADS,AEY]at hg;obtain⟨rfl,hg⟩:=hg;obtain rfl:=AFq hg;exact⟨by simp[BU],⟨BG,by rfl,ACm⟩,fun h' hh' =>hh'⟩)
 refine⟨⟨h.ID,h.tm.imp fun _ _ hq=>JS keep hq,?_⟩,⟨⟨fun _ h=>h,fun _ h=>h,fun _ h=> .inl h,fun _ h=> .inl h,fun c hc=>W_ c (fun e=>Vj (e▸hc)),(BZ _ _ _ _).os,(BZ _ _ _ _).tape,(BZ _ _ _ _).output,(BZ _ _ _ _).size⟩,by simp,fun _ _=>⟨rfl,rfl⟩,fun n hn=>by
  grind,fun n B B' gW hB Nt mu=>by
  simp at gW;rw[AFx (fun e=>gW e.symm),hB]at Nt;cases Nt;refine⟨Pl.refl mu,fun c hc=>W_ c (fun e=> ?_)⟩;obtain⟨Fs,⟨f1,f2⟩,f3⟩:=hB0;have Sr:(σ.bx.set b .dead)[n]? =some B:=by grind
  have hF:Fs[n]? =some (Fs[n]'(by grind)):=ADU _;rcases Wj (f2 n B _ Sr hF) hc with hs|hs
  ·simp_all
  ·exact(AEO.1 f3.nodup).2.2 c (AFz.2 ⟨_,AFB hF,hs⟩) bb (by simp) e⟩⟩
 have hT:=hB.turn (E':=E) (w':=w.setCells bb (o+off*r.n) vs) (vw':=σ.bx.set b (.sl (d'+1) r BG)) (fun x v hq=>C2 keep hq) (fun _ h=>h) (fun _ _=>rfl) (fun _ _=>rfl) (fun c hc _=>W_ c (fun e=>by
   simp_all)) (fun F hF=>⟨hF.nodup,hF.free,fun c hc=>by rw[Dn];exact hF.lt c hc,hF.st,fun c hc=>by rw[Dn];exact hF.W3 c hc⟩)
 have AD6:dN E (w.setCells bb (o+off*r.n) vs) (σ.bx.set b (.sl (d'+1) r BG)) b (.sl (d'+1) r BG) [bb]:=by
  refine⟨hd,?_⟩;simp only[Ow];refine⟨_,cap,by simp_all,by omega,.inr ⟨bb,o,C1 arr (o+off*r.n) vs,ty,fr,List.replicate BG.length [],rfl,F4 _ _ _ _ _ _ _ ha,by rw[F9];omega,by rw[F9];omega,by simp,by simp,fun i y G hy hG=> ?_⟩⟩;have hG':G=[]:=AGk (AFB hG);subst hG';have hil:i<rows.length:=by grind
  by_cases XD:off≤i∧i<off+n
  ·have hyz:y=r.z:=by
    grind
   subst hyz;refine⟨C4 r,hzl,fun j v hj=> ?_,Yy hgd⟩;have qW:j<r.n:=by grind
   have e1:(i-off)*r.n=i*r.n-off*r.n:=Nat.sub_mul ..;have e2:off*r.n≤i*r.n:=AGI _ XD.1;have e3:(i-off+1)*r.n≤n*r.n:=AGI _ (by omega);rw[Nat.add_mul,Nat.one_mul]at e3;have:=PO ha WV ((i-off)*r.n+j) v (by
    grind[Hq,Nat.mul_comm,Nat.mul_add_mod,Nat.mod_eq_of_lt])
   grind
  ·have hyo:rows[i]? =some y:=by
    rw[←zE]at hy;by_cases h1:i<off
    ·grind
    grind[List.getElem?_append_right]
   obtain⟨cs,c1,c2,c3⟩:=Vr i y (Fs[i]'(by omega)) hyo (ADU _);obtain⟨_,c4,c5⟩:=jN (w':=w.setCells bb (o+off*r.n) vs) (S':=E.S) (d':=d') hr c3;refine⟨cs,c4,XK c2 ha WV (.inr ?_),c5⟩;by_cases h1:i<off
   ·have:(i+1)*r.n≤off*r.n:=AGI _ h1
    grind
   grind
 have:=BR.put (b:=b) (B:= .sl (d'+1) r BG) (F:=[bb]) (G:=[]) (by simpa using hT) (by simp_all) AD6;simp_all
section
variable{Y:Type} {P:Program} {T:FI} (hT:Cq P T) {o:Oper} {E:Env} {σ:St} {a:Act} {w:World} {k:K Y} {y:Y}
include hT
theorem kP(h:Rel E σ a w){c:Call}{x:XV}(ho:o.op= .call c)(hc:c.callee= .builtin .clear)(Fh:c.args.toList.map σ.ev=[x])(e:Zb T c.argTypes σ x k=some y)
  (ADM:∀b p off n,x= .c (.win b p off n)→Fo (fun _=>none) σ o.op=[b]):∃v w' E' xv σ',((execOp a.eval o).run P w= .ok (.value v) w'∨((execOp a.eval o).run P w= .ok .skip w'∧v=undef))∧Rel E' σ' a w'∧XR E' w' σ'.bx xv v∧
   LV (Fo (fun _=>none) σ o.op) E σ.bx w E' σ'.bx w'∧σ'.tm.length=σ.tm.length∧k xv σ' =some y:=by
 obtain⟨o1,hargs',rfl⟩:=Sc Fh;have Vo:=h.ev o1;unfold Zb at e;split at e
 case h_2=>cases e
 rename_i t b off n ht hx;rw[hx]at Vo;rw[ADM b [] off n hx];split at e
 case h_2=>cases e
 rename_i d r rows hb;split at e
 case isFalse=>cases e
 rename_i WQ;rw[AEE]at WQ;obtain⟨WQ,hr⟩:=WQ;rw[AEE,AEe]at hr;obtain⟨hr,hk⟩:=hr;obtain⟨el,ti,hu,Ql,hs,hby,hrow⟩:=Ik hT WQ;obtain⟨i,z,i1,i2,i3,i4,i5,hg⟩:=Ww hT Ql hrow;have Vl:VR E w σ.bx (.win b [] off n) (a.eval o1):=Vo;simp only[VR,hb]at Vl;obtain⟨_,_,q,ys,ad,len,cap,hgp,hl,hh,hv⟩:=Vl;simp only[DK,ADS,AEY]at hgp;obtain⟨rfl,hgp⟩:=hgp;obtain rfl:=AFq hgp;simp only[Ex,ADS]at hh;by_cases hn:n=0
 ·subst hn
  have AAo:(rows.take off++List.replicate 0 r.z)++rows.drop (off+0)=rows:=by simp
  rw[AAo]at e;have Ul:σ.bx.set b (.sl d r rows)=σ.bx:=by
   apply AGj;grind
  rw[Ul]at e;refine⟨.tuple #[],w,E,.c .undef,σ,.inl ?_,h,trivial,LV.refl _ _ _ _,rfl,e⟩;have hz:∃a' c',a.eval o1= .slice a' 0 c':=⟨_,_,by rw[hv];rfl⟩;obtain⟨a',c',hz⟩:=hz;simp only[execOp,ho,resolve,hc,hargs',invoke,builtin,Sem.run_bind,Sem.run_pure,Result.andThen_ok,List.map_toArray,AGp,AGn,Builtin.clear_,ht,hz];cases a'<;>simp[Ai hu]
 ·obtain⟨bb,oo,cap',g1,g2,g3,g4,g5⟩:=nE h (d:=d) hb hr hg hk hl (by omega)
  rw[g1]at hh;simp only[Value.slice.injEq]at hh;obtain⟨rfl,rfl,rfl⟩:=hh;have Vs:a.eval o1= .slice (some ⟨bb,oo+off*r.n,none⟩) n (cap'-off):=by
   rw[hv];unfold Pp;rw[AEK (by omega)];simp[Addr.add]
  refine⟨.tuple #[],_,E,.c .undef,_,.inl ?_,g4,trivial,g5,rfl,e⟩;have hz:(Builtin.zeroCells z.cells n).toList=(List.replicate n (C4 r)).flatten:=by
   grind[Builtin.zeroCells,C4,U7,FT]
  have h1:∀v∈(List.replicate n (C4 r)).flatten,v.oneCell' =true:=fun v hv=>by
   obtain⟨l,hl1,kI⟩:=AFz.1 hv;rw[AGk hl1]at kI;exact gm (w:=w) (S:=E.S) (d:=0) (Yy hg) v kI
  have hvl:((List.replicate n (C4 r)).flatten).length=n*r.n:=by rw[FA,FT]
  have nw:=run_storeCells_cells (P:=P) bb (oo+off*r.n) (List.replicate n (C4 r)).flatten 0 w (fun j hj=>by simpa using(g3 j (by omega)).1) (fun j hj=>by simpa using(g3 j (by omega)).2) h1;rw[AGo]at nw;obtain⟨n',rfl⟩:∃n',n=n'+1:=⟨n-1,by omega⟩;simp only[execOp,ho,resolve,hc,hargs',invoke,builtin,Sem.run_bind,Sem.run_pure,Result.andThen_ok,List.map_toArray,AGp,AGn,Builtin.clear_,ht,Vs];simp[Ai hu,zeroValue,typeInfo,i1,i4,hz,nw]
end
end Go.Fw
end
section
namespace Go.Fw
theorem dy{E:Env}{w:World}{vw:List Bx}:∀{l:List XV} {bs:AAF} {vs:List Value},j4 l=some bs→A5 (XR E w vw) l vs→(∀b∈bs,b<vw.length)∧vs=bs.map fun b=>Value.pointer (some ⟨E.Du b,0,none⟩)
 |[],bs,vs,e,h=>by
  simp only[j4,ADS]at e;subst e;cases vs with
  |nil=>simp_all
  |cons _ _=>exact h.elim
 |x::l,bs,vs,e,h=>by
  unfold j4 at e;split at e
  ·simp_all
  ·rename_i b l' heq
   cases heq;simp only[ADV]at e;obtain⟨r,e1,rfl⟩:=e;cases vs with
   |nil=>exact h.elim
   |cons v vs=>
    obtain⟨h1,h2⟩:=h;obtain⟨k1,k2⟩:=dy e1 h2;obtain⟨h3,h4⟩:b<vw.length∧v= .pointer (some ⟨E.Du b,0,none⟩):=h1;simp_all
  simp_all
theorem evs{E:Env}{σ:St}{a:Act}{w:World}(h:Rel E σ a w):∀l:List Operand,A5 (XR E w σ.bx) (l.map σ.ev) (l.map a.eval)
 |[]=>trivial
 |x::l=>⟨h.ev x,evs h l⟩
theorem mL{E:Env}{σ:St}{a:Act}{w:World}(h:Rel E σ a w):∀o:Option Operand,OR E w σ.bx (o.map σ.ev) (o.map a.eval)
 |none=>trivial
 |some x=>h.ev x
theorem j6{w:World}{S:Nat→Prop}:∀{p:List Y_} {d:Nat} {r:Ty} {h:Value} {rows:List r.D} {F:AAF} {q:Ty} {ys:List q.D} {v:Value},Ow w S d (.sl r) [h] rows F→BU r rows p→
  DK r rows p=some ⟨q,ys⟩→d≤p.length→Ex w h p=some v→Rd w S (.sl q) [v] ys
 |p,0,r,h,rows,F,q,ys,v,ho,hp,hg,_,hv=>by
  simp only[Ow]at ho;obtain⟨h',k,hr⟩:=bO ho.1 hp hg;simp_all
 |[],d+1,r,h,rows,F,q,ys,v,ho,hp,hg,hd,hv=>by simp_all
 |s::p,d+1,r,h,rows,F,q,ys,v,ho,hp,hg,hd,hv=>by
  simp only[BU]at hp;obtain⟨hi,LW,hp⟩:=hp;simp only[DK]at hg;obtain⟨a,len,cap,rfl⟩:∃a len cap,h= .slice a len cap:=by
   have:=ho;simp only[Ow]at this;grind
  split at hg
  case h_2=>cases hg
  rename_i q' x' XY;rw[XY]at hp;obtain⟨b,o,arr,ty,fr,cs,G,R,rfl,hb,hu,hbd,c1,c2,c3,cW,hback⟩:=gz ho hi;obtain⟨u,A1,A2,k1,k2,k3,k4⟩:=Wu c3 XY;simp only[Ex]at hv;rw[LW,c2 _ _ k1]at hv;exact j6 k2 hp hg (by simp_all) hv
theorem lY{E:Env}{σ:St}{a:Act}{w:World}(h:Rel E σ a w){b i sz j:Nat}{p:List Y_}{va v:Value}(vu:VR E w σ.bx (.E7 b p i sz j) va){x:XV}(hv:XR E w σ.bx x v)(h1c:∀u∈v.cells.toList,u.oneCell' =true)
  {σ':St} (e:V9 σ (.c (.E7 b p i sz j)) x=some σ'):
  ∃bb oo E',va= .pointer (some ⟨bb,oo,none⟩)∧w.there bb oo v.cells.toList.length∧Rel E' σ' a (w.setCells bb oo v.cells.toList)∧LV [b] E σ.bx w E' σ'.bx (w.setCells bb oo v.cells.toList)∧σ'.tm.length=σ.tm.length:=by
 unfold V9 Um at e;split at e
 ·rename_i b0 _ _ _ _ b' s p' off n heq
  cases heq;split at e
  case isFalse=>cases e
  rename_i wB;subst wB;split at e
  case h_2=>cases e
  rename_i d r rows hb;simp only[ADc,ADV]at e;obtain⟨q,⟨⟨q0,ys⟩,hg,rfl⟩,e⟩:=e;dsimp only at e;have RF:=(ADa.1 hb).1;obtain⟨F,⟨hd1,ho⟩,hB⟩:=h.bx.take hb;obtain⟨A,W,pF,wG⟩:=FJ (d:=min d (p'.length+1)) (by omega) ho;have Sr:=hB.perm (G':=A++W++[]) (by simp_all);obtain⟨hle,hB3⟩:=Sr.share
  generalize hE1:({ E with S:=fun c=>E.S c∨c∈W,T:=fun c=>E.T c∨c∈W }:Env)=E1 at hle hB3
  have ho3:Ow w E1.S (min d (p'.length+1)) (.sl r) [E1.EK b'] rows A:=by
   rw[hle.EK];grind
  have hB4:=hB3.put (b:=b') (B:= .sl (min d (p'.length+1)) r rows) (by simp_all) ⟨by omega,ho3⟩;rw[List.set_set]at hB4;have hk:M8 E w σ.bx E1 w (σ.bx.set b' (.sl (min d (p'.length+1)) r rows)):=by
   refine⟨by simp,fun _ _=>by rw[hle.Du],hle.T,hle.S,h.bx.st,fun _ _=>rfl,fun c d' r' BG hc e=> ?_⟩;by_cases hcb:b' =c
   ·subst hcb
    rw[AGJ RF]at e;simp only[ADS,Bx.sl.injEq]at e;obtain⟨rfl,rfl,e⟩:=e;obtain rfl:=AFq e;exact⟨d,rows,hb,fun p hp q ys hg=>⟨hp,⟨ys,hg,rfl⟩,fun h' hh=>by rw[hle.EK];omega⟩⟩
   ·rw[AFx hcb]at e
    exact⟨d',BG,e,fun p hp q ys hg=>⟨hp,⟨ys,hg,rfl⟩,fun h' hh=>by rw[hle.EK];omega⟩⟩
  have Vo:VR E w σ.bx (.win b' (s::p') off n) v:=hv;have Vl:XR E1 w (σ.bx.set b' (.sl (min d (p'.length+1)) r rows)) (.c (.sl true q0 ((ys.drop off).take n))) v:=by
   simp only[VR,hb]at Vo;obtain⟨_,hp,q1,ys1,a1,len,cap,g1,g2,g3,rfl⟩:=Vo;rw[hg]at g1;simp only[ADS,AEY]at g1;obtain⟨rfl,g1⟩:=g1;obtain rfl:=AFq g1;have:=j6 ho3 hp hg (by grind) (by rw[hle.EK];omega);exact lZ this g2
  have hr:Rel E1 { σ with bx:=σ.bx.set b' (.sl (min d (p'.length+1)) r rows) } a w:=
   ⟨h.ID,h.tm.imp fun _ _ hx=>JS hk hx,hB4.turn (E':=E1) (w':=w) (fun _ _ hv=>C2 ⟨by simp,fun _ _=>rfl,fun _ h=>h,fun _ h=>h,hB3.st,fun _ _=>rfl,fun c d' r' BG hc e=>by
    grind⟩ hv) (fun _ h=>h) (fun _ _=>rfl) (fun _ _=>rfl) (fun _ _ _=>rfl) fun F hF=>hF⟩
  obtain⟨bb,oo,E',q1,q2,q3,q4,q5⟩:=gZ hr (C2 hk vu) Vl h1c e;refine⟨bb,oo,E',q1,q2,q3,⟨(hle.base w).trans q4.base,by simpa using q4.len,fun c hc=> ?_,fun c hc=> ?_,fun c B B' hct hB Nt hd=> ?_⟩,q5⟩
  ·have:=q4.ids c (by simp_all)
   exact⟨this.1.trans (by rw[hle.Du]),this.2.trans (by rw[hle.EK])⟩
  ·refine q4.dead c ?_
   grind
  ·have hcb:b'≠c:=fun e=>hct (by simp[e])
   obtain⟨f1,f2⟩:=q4.frame c B B' hct (by simp_all) Nt hd;refine⟨f1,fun c' Vy=>f2 c' ?_⟩;cases B with
   |mem cs=>exact Vy.trans (by rw[hle.Du])
   |sl d0 r0 Lj=>simp only[kH]at Vy⊢;rw[hle.EK];omega
   |dead=>exact Vy
 grind[gZ]
def dE:Op→Bool
 | .call { callee:= .value _,.. }=>true
 |_=>false
section
variable{Y:Type} {P:Program} {T:FI} (hT:Cq P T) {o:Oper} {E:Env} {σ:St} {a:Act} {w:World} {k:K Y} {y:Y}
include hT
theorem kp(h:Rel E σ a w){t:TypeId}{oa ox:Operand}(ho:o.op= .store t oa ox){ti:TI}(Ql:T.get t=some ti)
  (hc:(σ.ev ox).cells.length=ti.size∧ti.size≠0∧(σ.ev ox).cells.all AV.known=true) {σ':St} (hs:V9 σ (σ.ev oa) (σ.ev ox)=some σ') (e:k (.c .undef) σ' =some y):Gm P o E σ a w k y:=by
 obtain⟨c1,c2,c3⟩:=hc;have aB:(σ.ev ox).cells≠[]:=fun hh=>by simp_all
 obtain⟨RQ,h1c⟩:=df (h.ev ox) c3 aB;have hlen:(a.eval ox).cells.toList.length=ti.size:=by rw[←A5.len RQ];omega
 have hi:(P.info? t).map (·.size)=some (a.eval ox).cells.toList.length:=by grind[Cq.size]
 have vu:=h.ev oa;have fin:∀{bb oo:Nat} {E':Env},a.eval oa= .pointer (some ⟨bb,oo,none⟩)→w.there bb oo (a.eval ox).cells.toList.length→Rel E' σ' a (w.setCells bb oo (a.eval ox).cells.toList)→
   LV (Fo (fun _=>none) σ o.op) E σ.bx w E' σ'.bx (w.setCells bb oo (a.eval ox).cells.toList)→σ'.tm.length=σ.tm.length→Gm P o E σ a w k y:=by
  intro bb oo E' e1 e2 e3 e4 e5;have hr:=bD (P:=P) e2 hi h1c;refine⟨undef,_,E',.c .undef,σ',.inr ⟨?_,rfl⟩,e3,trivial,e4,e5,e⟩;grind[execOp,Sem.run_bind,Result.andThen_ok,Sem.run_pure]
 generalize hxa:σ.ev oa=xa at hs vu
 cases xa with
 |agg l=>simp[V9,Um,X4]at hs
 |LI l=>simp[V9,Um,X4]at hs
 |c x=>
  cases x with
  |EN b j=>
   simp only[V9,Um,ADT,X4]at hs;split at hs
   case h_2=>cases hs
   rename_i cs hb;simp only[ADV]at hs;obtain⟨Wd,hs,rfl⟩:=hs;have AEc:b<σ.bx.length∧a.eval oa= .pointer (some ⟨E.Du b,j,none⟩):=vu;obtain⟨q1,q2,q3⟩:=nF h hb RQ aB hs;exact fin AEc.2 q1 q2 (by grind[Fo]) rfl
  |E7 b p i sz j=>
   obtain⟨bb,oo,E',q1,q2,q3,q4,q5⟩:=lY h vu (h.ev ox) h1c hs;grind[Fo]
  |_=>simp[V9,Um,X4]at hs
omit hT in
theorem kA(h:Rel E σ a w){x:Operand}(ho:o.op= .assign x)(e:U1 σ (σ.ev x) k=some y):Gm P o E σ a w k y:=by
 have hr:(execOp a.eval o).run P w= .ok (.value (a.eval x)) w:=by simp only[execOp,ho,Sem.run_pure]
 have hv:=h.ev x;unfold U1 at e;split at e
 ·rename_i b off n hx
  rw[hx]at hv;simp only[ADc]at e;obtain⟨⟨r,rows,bx,d⟩,e1,e⟩:=e;dsimp only at e;have Vs:VR E w σ.bx (.win b [] off n) (a.eval x):=hv;obtain⟨hd,F1,F2,k1,ho1⟩:=XC h.bx (Cf.refl _) Vs e1;obtain⟨Fs0,hB1,Sr⟩:=k1.boxes;simp only[AFp]at Sr;have nd:=(AEO.1 (AEO.1 Sr.nodup).2.1).1;obtain⟨r1,r2,r3⟩:=NY h k1 (w':=w) hd ho1 (fun c hc=> .inl (AFt.2 (.inl hc))) nd (fun c hc=>Sr.lt c (by simp[hc])) (fun _ _ _=>rfl) ⟨rfl,rfl,rfl,AF2 _⟩;exact⟨_,_,_,_,_,.inl hr,r1,r3,r2.any,rfl,e⟩
 ·exact Gm.same h hr hv e
theorem my{Γ:Nat→Option Sf}(h:Rel E σ a w)(e:Rm T Γ o σ k=some y)(aF:dE o.op=false):Gm P o E σ a w k y:=by
 have same:∀{v:Value} {x:XV},(execOp a.eval o).run P w= .ok (.value v) w→XR E w σ.bx x v→k x σ=some y→Gm P o E σ a w k y:=fun h1 h2 h3=>Gm.same h h1 h2 h3
 obtain⟨Fs,hB,hS⟩:=h.bx;have st:=hS.st;unfold Rm at e;split at e
 ·rename_i x ho
  exact same (v:=a.eval x) (by grind[execOp,Sem.run_pure]) (h.ev x) e
 ·grind[kA]
 ·rename_i c xa xb ho
  split at e
  case h_2=>cases e
  rename_i p hp;have hc:=h.ev c;rw[hp]at hc;have Vy:=L7 (E:=E) (w:=w) (vw:=σ.bx) hc;refine same (v:=if p then a.eval xa else a.eval xb) (x:=if p then σ.ev xa else σ.ev xb) (by simp[execOp,ho,Vy,asBool]) (by cases p<;>simp[h.ev]) ?_
  grind[oZ]
 ·grind[kR]
 ·grind[ou]
 ·grind[kk]
 ·grind[aZ]
 ·rename_i t x ho
  split at e
  case h_2=>cases e
  rename_i z hz;obtain⟨u,h1,h2⟩:=jq hT hB st hz (h.ev x);grind[execOp,Sem.run_bind,Result.andThen_ok,Sem.run_pure]
 ·grind[kp]
 ·rename_i x ho
  have hx:=h.ev x;split at e
  ·rename_i b j hp
   rw[hp]at hx;have wO:b<σ.bx.length∧a.eval x= .pointer (some ⟨E.Du b,j,none⟩):=hx;grind[execOp,Sem.run_pure]
  ·rename_i b p i sz j hp
   rw[hp]at hx;have hpt:Vm (a.eval x)=true:=hx.1;grind[Vm,execOp,Sem.run_pure]
  ·rename_i s r z j hp
   rw[hp]at hx;obtain⟨bb,oo,cs,hv,hrest⟩:=hx;exact same (v:=a.eval x) (x:= .c (.Jj s r z j)) (by grind[execOp,Sem.run_pure]) ⟨bb,oo,cs,hv,hrest⟩ e
  ·rename_i f Fj hp
   rw[hp]at hx;have wO:(∀b∈Fj,b<σ.bx.length)∧a.eval x= .func (.func f) #[] (Fj.map fun b=>Value.pointer (some ⟨E.Du b,0,none⟩)).toArray:=hx;grind[execOp,Sem.run_pure]
  simp_all
 ·rename_i op t x z s ho
  obtain⟨r,val,h1,h2,h3⟩:=X2 hT e (h.ev x) (h.ev z) x z;exact same (v:=val) (x:= .c r) (by
   simp only[execOp,ho,Sem.run_bind];simp_all) h3 h1
 ·rename_i op t x ho
  obtain⟨r,val,h1,h2,h3⟩:=Zl (P:=P) e (h.ev x);exact same (v:=val) (x:= .c r) (by grind[execOp,Sem.run_bind,Result.andThen_ok,Sem.run_pure]) h3 h1
 ·grind[mo]
 ·rename_i f first Fj ho
  split at e
  case isFalse=>cases e
  rename_i hf;split at e
  case h_2=>cases e
  rename_i bs hbs;obtain⟨q1,q2⟩:=dy hbs (evs h Fj.toList);have AEG:first.map a.eval= #[]:=by
   simp_all
  have AGY:Fj.map a.eval=(bs.map fun b=>Value.pointer (some ⟨E.Du b,0,none⟩)).toArray:=by
   grind
  refine same (v:= .func (.func f) #[] (bs.map fun b=>Value.pointer (some ⟨E.Du b,0,none⟩)).toArray) ?_ (x:= .c (.fn f bs)) ⟨q1,rfl⟩ e
  grind[execOp,Instr.makeFunc,Sem.run_bind,Sem.run_pure,Result.andThen_ok]
 ·grind[nX]
 ·rename_i t x lo hi ho
  obtain⟨z,val,h1,h2,h3⟩:=YP hT hB st e (h.ev x) (mL h lo) (mL h hi);grind[execOp,Sem.run_bind,Result.andThen_ok,Sem.run_pure]
 ·rename_i t x f ho
  split at e
  case h_2=>cases e
  rename_i z hz;obtain⟨u,h1,h2⟩:=YJ hT hz (h.ev x);grind[execOp,Sem.run_bind,Result.andThen_ok,Sem.run_pure]
 ·rename_i t x f ho
  split at e
  case h_2=>cases e
  rename_i z hz;obtain⟨u,h1,h2⟩:=aT hT hz (h.ev x);grind[execOp,Sem.run_bind,Result.andThen_ok,Sem.run_pure]
 ·rename_i t x i ho
  obtain⟨z,val,h1,h2,h3⟩:=X8 hT hB st e (h.ev x) (h.ev i);grind[execOp,Sem.run_bind,Result.andThen_ok,Sem.run_pure]
 ·rename_i t x i ho
  obtain⟨z,val,h1,h2,h3⟩:=Vq hT e (h.ev x) (h.ev i);grind[execOp,Sem.run_bind,Result.andThen_ok,Sem.run_pure]
 ·rename_i x i ho
  split at e
  case h_2=>cases e
  rename_i z hz;obtain⟨u,h1,h2⟩:=V4 (P:=P) hz (h.ev x);grind[execOp,Sem.run_bind,Result.andThen_ok,Sem.run_pure]
 ·rename_i f args en ho
  rw[ho]at aF;cases aF
 ·rename_i args en ho
  split at e
  ·rename_i s t Fh yY
   obtain⟨x,rfl,hx⟩:=Sc Fh;have hv:=h.ev x;rw[hx]at hv;have Vs:=RW (E:=E) (w:=w) (vw:=σ.bx) hv;split at e
   case isFalse=>cases e
   rename_i hs;have hu:=Ri hT hs;refine same (v:= .int .i64 (s.length:Int)) (x:= .c (.v (.int .i64) (s.length:Int))) ?_ (VR.int (E:=E) (vw:=σ.bx) _ _) e
   have LW:(⟨s.toArray⟩:ByteArray).size=s.length:=by rfl
   simp[execOp,ho,resolve,invoke,builtin,Builtin.len_,yY,Vs,Ai hu,goInt,LW]
  ·rename_i z t _ Fh yY
   obtain⟨x,rfl,hx⟩:=Sc Fh;have hv:=h.ev x;rw[hx]at hv;split at e
   case isFalse=>cases e
   rename_i hs;split at e
   case h_2=>cases e
   rename_i n hn;obtain⟨el,hu⟩:=ZU hT hs;obtain⟨ad,cap,Vs⟩:=Z0 hB st hn hv;refine same (v:= .int .i64 (n:Int)) (x:= .c (.v (.int .i64) (n:Int))) ?_ (VR.int (E:=E) (vw:=σ.bx) _ _) e
   simp[execOp,ho,resolve,invoke,builtin,Builtin.len_,yY,Vs,Ai hu,goInt]
  simp_all
 ·rename_i args en ho
  split at e
  case h_2=>cases e
  rename_i x1 x2 Fh;exact ji hT h ho rfl Fh e
 ·rename_i args en ho
  split at e
  case h_2=>cases e
  rename_i x Fh;exact kP hT h ho rfl Fh e (fun b p off n hx=>by grind[Fo])
 ·rename_i args en ho
  split at e
  case h_2=>cases e
  rename_i x1 x2 Fh;obtain⟨o1,o2,rfl,hx1,hx2⟩:=SI Fh;have Vo:=h.ev o1;have Vl:=h.ev o2;rw[hx1]at Vo;rw[hx2]at Vl;obtain⟨r,val,h1,h2,h3⟩:=NN (P:=P) (big:=true) e Vo Vl en #[] o.type;simp only[AGF]at h2;exact same (v:=val) (x:= .c r) (by simp[execOp,ho,resolve,invoke,builtin,h2]) h3 h1
 ·rename_i args en ho
  split at e
  case h_2=>cases e
  rename_i x1 x2 Fh;obtain⟨o1,o2,rfl,hx1,hx2⟩:=SI Fh;have Vo:=h.ev o1;have Vl:=h.ev o2;rw[hx1]at Vo;rw[hx2]at Vl;obtain⟨r,val,h1,h2,h3⟩:=NN (P:=P) (big:=false) e Vo Vl en #[] o.type;simp only[AFZ,AFg]at h2;exact same (v:=val) (x:= .c r) (by simp[execOp,ho,resolve,invoke,builtin,h2]) h3 h1
 simp_all
end
end Go.Fw
end
