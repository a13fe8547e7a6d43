/- The framework, part 1: a checked interpreter of the model's code over abstract states; no claim is made here. -/
import Derived.Calls
import Derived.Still
import Derived.Laws.World
import Derived.Laws.AppendOwn
import Derived.RowKit3
import Derived.Deep.MidRow
import Derived.Laws.StructEq
import Derived.Lib.ConvBytes
import Derived.Laws.BytesArg
import Derived.Tactics
import Derived.OrdersHeld
import Derived.ChangeArms
import Derived.ChangeOld
import Derived.DataReads
import Derived.Below
set_option linter.unusedVariables false
set_option linter.unusedSimpArgs false
set_option linter.unusedSectionVars false
abbrev nJ:Type:=Int × Int × Bool × List UInt8 × Unit
abbrev nW:Type:=Int × Int × List UInt8 × Unit
abbrev nj:Type:=List UInt8 × List Int × Bool × Unit
abbrev nV:Type:=List Int × Bool × Int × Unit
abbrev nm:Type:=Int × List UInt8 × Bool × Unit
abbrev mr:Type:=List Int
abbrev np:Type:=Int × Bool × Int × Int × Bool × List UInt8 × Unit
abbrev nQ:Type:=Unit × Int × Unit × Unit × Unit × Int × Unit × Unit × Unit × Unit × Bool × Unit
abbrev m8:Type:=Bool × Unit
abbrev nL:Type:=List Int × Int × Int × Unit
abbrev nC:Type:=List Int × Unit
abbrev mu:Type:=List Nat
abbrev nD:Type:=Int × Unit
abbrev nT:Type:=Int × Int × Unit × Unit
abbrev nH:Type:=Unit × Unit
abbrev nn:Type:=Unit × Int × Unit
abbrev nB:Type:=Nat × Nat
abbrev m9:Type:=List Int × Int × Unit
abbrev nS:Type:=Nat × List Nat
abbrev nq:Type:=Int × Bool × Unit
abbrev nh:Type:=List UInt8 × Bool × Unit
abbrev nK:Type:=Int × Int × List Int × List nJ × Bool × List mr × Unit
abbrev nM:Type:=List nJ × List nJ × Int × Unit
abbrev nG:Type:=Int × Int × List nW × Unit
abbrev nN:Type:=Int × List nj × Unit
abbrev mw:Type:=List nV
abbrev m5:Type:=List nm
abbrev nA:Type:=List nW
abbrev m_:Type:=List nJ
abbrev nF:Type:=List nj
abbrev nI:Type:=List nV × Int × Unit
abbrev nO:Type:=nn × Unit
abbrev nP:Type:=nL × Unit
abbrev nE:Type:=List np
abbrev nY:Type:=nL × List Int × Unit
abbrev nX:Type:=nq × Unit
abbrev nf:Type:=nT × Int × Unit
abbrev nZ:Type:=nJ × Bool × Unit
abbrev ni:Type:=nQ × Int × Unit
abbrev m7:Type:=List Int × Int × List nM × List Int × List nV × Int × List nN × List nK × List nG × List nm × Bool × Unit
abbrev mv:Type:=List nG
abbrev mz:Type:=List nN
abbrev my:Type:=List nM
abbrev m6:Type:=List nK
abbrev nU:Type:=nA × Unit
abbrev nc:Type:=nT × Unit × nA × Unit
abbrev nR:Type:=List Int × my × List Int × mw × mz × m6 × mv × m5 × Unit
abbrev ng:Type:=nQ × List Int × my × List Int × mw × mz × m6 × mv × m5 × Unit
section
namespace Go.Fw
inductive Ty where
 |int (k:IntKind)|bool|str|sl (r:Ty)|unit|cons (c r:Ty)
 deriving DecidableEq
@[reducible] def Ty.D:Ty→Type
 | .int _=>Int
 | .bool=>Bool
 | .str=>List UInt8
 | .sl r=>List r.D
 | .unit=>Unit
 | .cons c r=>c.D×r.D
def Ty.n:Ty→Nat
 | .unit=>0
 | .cons _ r=>r.n+1
 |_=>1
def Ty.z:(t:Ty)→t.D
 | .int _=>(0:Int)
 | .bool=>false
 | .str=>[]
 | .sl _=>[]
 | .unit=>()
 | .cons c r=>(c.z,r.z)
def Ty.flat:Ty→Bool
 | .sl _=>false
 | .cons c r=>c.flat&&r.flat
 |_=>true
def Ty.scalar:Ty→Bool
 | .int _| .bool| .str=>true
 |_=>false
structure Pd where
 i:Nat
 sz:Nat
 j:Nat
inductive AV where
 |v (t:Ty) (x:t.D)
 |sl (s:Bool) (r:Ty) (x:List r.D)
 |nil
 |ref (b:Nat) (p:List Pd)
 |NB (b:Nat) (p:List Pd) (off n:Nat)
 |C2 (b j:Nat)
 |Di (b:Nat) (p:List Pd) (i sz j:Nat)
 |FU (s:Bool) (r:Ty) (x:r.D) (j:Nat)
 |fn (f:Nat) (Dr:mu)
 |Sj (f:Nat) (rows:List ((r:Ty)×r.D))
 |VX
 |undef
def AV.known:AV→Bool
 | .undef=>false
 |_=>true
inductive XV where
 |c (x:AV)
 |agg (l:List AV)
 |Hi (l:List (AV ⊕ List AV))
inductive Bx where
 |mem (cs:List AV)
 |sl (d:Nat) (r:Ty) (rows:List r.D)
 |dead
structure St where
 tm:List XV
 bx:List Bx
def AR:(r:Ty)→(j:Nat)→r.D→Option ((t:Ty)×t.D)
 | .cons c _,0,x=>some ⟨c,x.1⟩
 | .cons _ r,j+1,x=>AR r j x.2
 | .unit,_,_=>none
 | .int k,0,x=>some ⟨.int k,x⟩
 | .bool,0,x=>some ⟨.bool,x⟩
 | .str,0,x=>some ⟨.str,x⟩
 | .sl r,0,x=>some ⟨.sl r,x⟩
 |_,_+1,_=>none
def Qx {a b:Ty} (h:a=b) (x:a.D):b.D:=h▸x
def BR:(r:Ty)→(j:Nat)→r.D→(t:Ty)→t.D→Option r.D
 | .cons c _,0,x,t,y=>if h:t=c then some (Qx h y,x.2) else none
 | .cons _ r,j+1,x,t,y=>(BR r j x.2 t y).map fun z=>(x.1,z)
 | .unit,_,_,_,_=>none
 | .int k,0,_,t,y=>if h:t= .int k then some (Qx h y) else none
 | .bool,0,_,t,y=>if h:t= .bool then some (Qx h y) else none
 | .str,0,_,t,y=>if h:t= .str then some (Qx h y) else none
 | .sl r,0,_,t,y=>if h:t= .sl r then some (Qx h y) else none
 |_,_+1,_,_,_=>none
def rowAt (r:Ty) (rows:List r.D) (i:Nat):r.D:=rows.getD i r.z
def Cb:(r:Ty)→List r.D→List Pd→Option ((q:Ty)×List q.D)
 |r,rows,[]=>some ⟨r,rows⟩
 |r,rows,s::p=>
  match AR r s.j (rowAt r rows s.i) with
  |some ⟨.sl q,x⟩=>Cb q x p
  |_=>none
def Qe:(r:Ty)→List r.D→List Pd→(q:Ty)→List q.D→Option (List r.D)
 |r,_,[],q,y=>if h:q=r then some (Qx (congrArg Ty.sl h) y) else none
 |r,rows,s::p,q,y=>
  match AR r s.j (rowAt r rows s.i) with
  |some ⟨.sl r',x⟩=>(Qe r' x p q y).bind fun x' =>(BR r s.j (rowAt r rows s.i) (.sl r') x').map fun row=>rows.set s.i row
  |_=>none
inductive TD where
 |int (k:IntKind)|bool|str|sl (e:Nat)|st (fs:List nB)|ptr (e:Nat)|other
structure TI where
 size:Nat
 bytes:Nat
 desc:TD
 row:Option Ty
abbrev Dp:=List (Nat×TI)
def Dp.get:Dp→Nat→Option TI
 |[],_=>none
 |(u,i)::l,t=>if u=t then some i else Dp.get l t
def TD.agg:TD→Bool
 | .st _=>true
 |_=>false
def Dp.On (T:Dp) (t:Nat):Option Ty:=
 match T.get t with
 |some ti=>ti.row
 |none=>none
def VF:Ty→AV
 | .int k=> .v (.int k) (0:Int)
 | .bool=> .v .bool false
 | .str=> .v .str []
 | .sl _=> .nil
 |_=> .undef
def LR:Ty→List AV
 | .cons c r=>VF c::LR r
 | .unit=>[]
 |t=>[VF t]
def RN:Value→AV
 | .int k n=> .v (.int k) n
 | .bool b=> .v .bool b
 | .string s=> .v .str s.data.toList
 | .slice none 0 0=> .nil
 | .pointer none=> .VX
 |_=> .undef
def ofValue:Value→XV
 | .agg cs=> .agg (cs.toList.map RN)
 |v=> .c (RN v)
def St.ev (σ:St):Operand→XV
 | .tmp t=>σ.tm.getD t (.c .undef)
 | .const v=>ofValue v
 | .global _=> .c .undef
 | .func f=> .c (.fn f [])
def St.put (σ:St) (dst:Option Tmp) (x:XV):St:=
 match dst with
 |some d=>{ σ with tm:=σ.tm.set d x }
 |none=>σ
def XV.cells:XV→List AV
 | .c x=>[x]
 | .agg l=>l
 | .Hi _=>[]
def Gm {β:Ty→Type} (a b:Ty) (x:β a):Option (β b):=if h:a=b then some (h▸x) else none
def E4 (bx:List Bx):AV→Option ((r:Ty)×List r.D)
 | .sl _ r x=>some ⟨r,x⟩
 | .ref b p=>
  match bx[b]? with
  |some (.sl _ r rows)=>Cb r rows p
  |_=>none
 | .NB b p off n=>
  match bx[b]? with
  |some (.sl _ r rows)=>(Cb r rows p).map fun q=>⟨q.1,(q.2.drop off).take n⟩
  |_=>none
 |_=>none
def Et (bx:List Bx) (t:Ty) (x:AV):Option t.D:=
 match x with
 | .v u y=>Gm (β:=Ty.D) u t y
 | .nil=>match t with
  | .sl _=>some []
  |_=>none
 |x=>match t with
  | .sl r=>(E4 bx x).bind fun q=>Gm (β:=fun r=>List r.D) q.1 r q.2
  |_=>none
def C7 (bx:List Bx):(r:Ty)→List AV→Option r.D
 | .unit,[]=>some ()
 | .cons c r,x::l=>(Et bx c x).bind fun a=>(C7 bx r l).map fun b=>(a,b)
 |_,_=>none
def lenOf (bx:List Bx):AV→Option Nat
 | .nil=>some 0
 | .sl _ _ x=>some x.length
 | .ref b p=>
  match bx[b]? with
  |some (.sl _ r rows)=>(Cb r rows p).map fun q=>q.2.length
  |_=>none
 | .NB b _ _ n=>
  match bx[b]? with
  |some (.sl _ _ _)=>some n
  |_=>none
 |_=>none
inductive AP where
 |v (t:Ty)
 |sl (s:Bool) (r:Ty)
 |nil
 |ref (i:Nat)
 |ptr (i j:Nat)
 |SK (r:Ty)
 |fn (f:Nat) (Dr:mu)
 |Sj (f:Nat) (rs:List Ty)
 |any
 |PA (i sz:Nat)
inductive XP where
 |c (p:AP)
 |agg (l:List AP)
 |row (r:Ty)
 |Hi (l:List (AP ⊕ List AP))
inductive BP where
 |mem (l:List AP)
 |sl (d:Nat) (r:Ty)
 |gone
structure Cq where
 Bb:List (Nat×XP)
 CU:List BP
@[reducible] def Kn:List Ty→Type
 |[]=>Unit
 |r::l=>r.D×Kn l
def Kn.mk:(l:List Ty)→Kn l→List ((r:Ty)×r.D)
 |[],_=>[]
 |r::l,x=>⟨r,x.1⟩::Kn.mk l x.2
@[reducible] def AP.V:AP→Type
 | .Sj _ rs=>Kn rs
 | .v t=>t.D
 | .sl _ r=>List r.D
 | .SK r=>r.D
 | .PA _ _=>Nat×Nat
 |_=>Unit
@[reducible] def KE.V:List AP→Type
 |[]=>Unit
 |p::l=>p.V×KE.V l
@[reducible] def KR.V:List (AP ⊕ List AP)→Type
 |[]=>Unit
 | .inl p::l=>p.V×KR.V l
 | .inr q::l=>KE.V q×KR.V l
@[reducible] def XP.V:XP→Type
 | .c p=>p.V
 | .agg l=>KE.V l
 | .row r=>r.D
 | .Hi l=>KR.V l
@[reducible] def BP.V:BP→Type
 | .mem l=>KE.V l
 | .sl _ r=>List r.D
 | .gone=>Unit
@[reducible] def Cd.V:List (Nat×XP)→Type
 |[]=>Unit
 |(_,p)::l=>p.V×Cd.V l
@[reducible] def DX.V:List BP→Type
 |[]=>Unit
 |p::l=>p.V×DX.V l
@[reducible] def Cq.V (s:Cq):Type:=Cd.V s.Bb×DX.V s.CU
def AP.mk (m:Nat→Nat):(p:AP)→p.V→AV
 | .v t,x=> .v t x
 | .sl s r,x=> .sl s r x
 | .nil,_=> .nil
 | .ref i,_=> .ref (m i) []
 | .ptr i j,_=> .C2 (m i) j
 | .SK r,x=> .FU false r x 0
 | .fn f Dr,_=> .fn f (Dr.map m)
 | .Sj f rs,x=> .Sj f (Kn.mk rs x)
 | .any,_=> .undef
 | .PA i sz,k=> .ref (m i) [⟨k.1,sz,k.2⟩]
def KE.mk (m:Nat→Nat):(l:List AP)→KE.V l→List AV
 |[],_=>[]
 |p::l,x=>p.mk m x.1::KE.mk m l x.2
def Rg:(r:Ty)→r.D→List AV
 | .unit,_=>[]
 | .cons c r,x=>(match c,x.1 with
  | .sl q,y=>AV.sl false q y
  |c,y=> .v c y)::Rg r x.2
 | .sl q,x=>[.sl false q x]
 | .int k,x=>[.v (.int k) x]
 | .bool,x=>[.v .bool x]
 | .str,x=>[.v .str x]
def KR.mk (m:Nat→Nat):(l:List (AP ⊕ List AP))→KR.V l→List (AV ⊕ List AV)
 |[],_=>[]
 | .inl p::l,x=> .inl (p.mk m x.1)::KR.mk m l x.2
 | .inr q::l,x=> .inr (KE.mk m q x.1)::KR.mk m l x.2
def XP.mk (m:Nat→Nat):(p:XP)→p.V→XV
 | .c p,x=> .c (p.mk m x)
 | .agg l,x=> .agg (KE.mk m l x)
 | .row r,x=> .agg (Rg r x)
 | .Hi l,x=> .Hi (KR.mk m l x)
def BP.mk (m:Nat→Nat):(p:BP)→p.V→Bx
 | .mem l,x=> .mem (KE.mk m l x)
 | .sl d r,x=> .sl d r x
 | .gone,_=> .dead
def Cd.mk (m:Nat→Nat):(l:List (Nat×XP))→Cd.V l→List XV→List XV
 |[],_,tm=>tm
 |(i,p)::l,x,tm=>Cd.mk m l x.2 (tm.set i (p.mk m x.1))
def DX.mk (m:Nat→Nat):(l:List BP)→DX.V l→List Bx
 |[],_=>[]
 |p::l,x=>p.mk m x.1::DX.mk m l x.2
def Cq.st (s:Cq) (n:Nat) (x:s.V):St:=
 { tm:=Cd.mk id s.Bb x.1 (List.replicate n (.c .undef)),bx:=DX.mk id s.CU x.2 }
abbrev GI:=List (Option Nat)
def GI.put (m:GI) (i b:Nat):Option GI:=
 match m[i]? with
 |some none=>if m.contains (some b) then none else some (m.set i (some b))
 |some (some b')=>if b' =b then some m else none
 |none=>none
def Lr:GI→List Nat→List Nat→Option GI
 |m,[],[]=>some m
 |m,i::is,b::bs=>(m.put i b).bind fun m=>Lr m is bs
 |_,_,_=>none
def AP.FO (N:Nat) (m:GI):AP→AV→Option GI
 | .ref i,.ref b []=>m.put i b
 | .ref i,.nil=>m.put i (N+i)
 | .ref _,_=>none
 | .PA i sz,.ref b [s]=>if s.sz=sz then m.put i b else none
 | .PA _ _,_=>none
 | .ptr i j,.C2 b j' =>if j=j' then m.put i b else none
 | .ptr _ _,_=>none
 | .fn f Dr,.fn g bs=>if f=g then Lr m Dr bs else none
 | .fn _ _,_=>none
 | .nil,.nil=>some m
 | .nil,_=>none
 |_,_=>some m
def KE.FO (N:Nat):GI→List AP→List AV→Option GI
 |m,[],[]=>some m
 |m,p::l,x::xs=>(p.FO N m x).bind fun m=>KE.FO N m l xs
 |_,_,_=>none
def KR.FO (N:Nat):GI→List (AP ⊕ List AP)→List (AV ⊕ List AV)→Option GI
 |m,[],[]=>some m
 |m,.inl p::l,.inl x::xs=>(p.FO N m x).bind fun m=>KR.FO N m l xs
 |m,.inr p::l,.inr x::xs=>(KE.FO N m p x).bind fun m=>KR.FO N m l xs
 |_,_,_=>none
def XP.FO (N:Nat) (m:GI):XP→XV→Option GI
 | .c p,.c x=>p.FO N m x
 | .agg l,.agg xs=>KE.FO N m l xs
 | .row _,.agg _=>some m
 | .Hi l,.Hi xs=>KR.FO N m l xs
 |_,_=>none
def Cd.FO (N:Nat) (tm:List XV):GI→List (Nat×XP)→Option GI
 |m,[]=>some m
 |m,(i,p)::l=>
  match tm[i]? with
  |some x=>(p.FO N m x).bind fun m=>Cd.FO N tm m l
  |none=>none
def DX.FO (N:Nat) (bx:List Bx):Nat→GI→List BP→Option GI
 |_,m,[]=>some m
 |i,m,.mem l::ps=>
  match m[i]? with
  |some (some b)=>
   match bx[b]? with
   |some (.mem cs)=>(KE.FO N m l cs).bind fun m=>DX.FO N bx (i+1) m ps
   |_=>none
  |_=>none
 |i,m,.sl _ _::ps=>
  match m[i]? with
  |some (some _)=>DX.FO N bx (i+1) m ps
  |_=>none
 |i,m,.gone::ps=>DX.FO N bx (i+1) m ps
def Ay (bx:List Bx):GI→List Bx
 |[]=>bx
 |some b::m=>Ay (bx.set b .dead) m
 |none::m=>Ay bx m
def Kn.Q8:(l:List Ty)→List ((r:Ty)×r.D)→Option (Kn l)
 |[],[]=>some ()
 |r::l,q::qs=>(Gm (β:=Ty.D) q.1 r q.2).bind fun a=>(Kn.Q8 l qs).map fun b=>(a,b)
 |_,_=>none
def Kn.Qg (bx:List Bx):(l:List Ty)→List Nat→Option (Kn l)
 |[],[]=>some ()
 |r::l,b::bs=>(match bx[b]? with
  |some (.mem cs)=>C7 bx r cs
  |_=>none).bind fun a=>(Kn.Qg bx l bs).map fun c=>(a,c)
 |_,_=>none
def AP.get (bx:List Bx):(p:AP)→AV→Option p.V
 | .Sj f rs,x=>match x with
  | .Sj g rows=>if f=g then Kn.Q8 rs rows else none
  | .fn g bs=>if f=g then Kn.Qg bx rs bs else none
  |_=>none
 | .v t,x=>if t.scalar then Et bx t x else none
 | .sl false r,x=>Et bx (.sl r) x
 | .sl true r,x=>match x with
  | .sl true q y=>Gm (β:=fun r=>List r.D) q r y
  | .nil=>some []
  |_=>none
 | .SK r,x=>match x with
  | .FU _ q y 0=>Gm (β:=Ty.D) q r y
  | .C2 b 0=>match bx[b]? with
   |some (.mem cs)=>C7 bx r cs
   |_=>none
  | .Di b p i sz 0=>match bx[b]? with
   |some (.sl _ q rows)=>(Cb q rows p).bind fun s=>if sz=s.1.n then Gm (β:=Ty.D) s.1 r (rowAt s.1 s.2 i) else none
   |_=>none
  |_=>none
 | .nil,_=>some ()
 | .ref _,_=>some ()
 | .ptr _ _,_=>some ()
 | .fn _ _,_=>some ()
 | .any,_=>some ()
 | .PA _ _,x=>match x with
  | .ref _ [s]=>some (s.i,s.j)
  |_=>none
def KE.get (bx:List Bx):(l:List AP)→List AV→Option (KE.V l)
 |[],[]=>some ()
 |p::l,x::xs=>(p.get bx x).bind fun a=>(KE.get bx l xs).map fun b=>(a,b)
 |_,_=>none
def KR.get (bx:List Bx):(l:List (AP ⊕ List AP))→List (AV ⊕ List AV)→Option (KR.V l)
 |[],[]=>some ()
 | .inl p::l,.inl x::xs=>(p.get bx x).bind fun a=>(KR.get bx l xs).map fun b=>(a,b)
 | .inr p::l,.inr x::xs=>(KE.get bx p x).bind fun a=>(KR.get bx l xs).map fun b=>(a,b)
 |_,_=>none
def XP.get (bx:List Bx):(p:XP)→XV→Option p.V
 | .c p,.c x=>p.get bx x
 | .agg l,.agg xs=>KE.get bx l xs
 | .row r,.agg xs=>C7 bx r xs
 | .Hi l,.Hi xs=>KR.get bx l xs
 |_,_=>none
def Cd.get (bx:List Bx) (tm:List XV):(l:List (Nat×XP))→Option (Cd.V l)
 |[]=>some ()
 |(i,p)::l=>
  match tm[i]? with
  |some x=>(p.get bx x).bind fun a=>(Cd.get bx tm l).map fun b=>(a,b)
  |none=>none
def DX.get (bx bk:List Bx):(m:GI)→(l:List BP)→Option (DX.V l)
 |_,[]=>some ()
 |some b::m,.mem l::ps=>
  match bx[b]? with
  |some (.mem cs)=>(KE.get bk l cs).bind fun a=>(DX.get bx bk m ps).map fun c=>(a,c)
  |_=>none
 |some b::m,.sl d r::ps=>
  match bx[b]? with
  |some (.sl d' q rows)=>if 1≤d∧d≤d' then (Gm (β:=fun r=>List r.D) q r rows).bind fun a=>(DX.get bx bk m ps).map fun c=>(a,c) else none
  |_=>none
 |_::m,.gone::ps=>(DX.get bx bk m ps).map fun c=>((),c)
 |_,_=>none
def Cq.fit (s:Cq) (N:Nat) (m0:GI) (tm:List XV) (bx:List Bx):Option (s.V×GI):=
 (Cd.FO N tm m0 s.Bb).bind fun m=>(DX.FO N bx 0 m s.CU).bind fun m=>
  let bk:=Ay bx m
  (Cd.get bk tm s.Bb).bind fun a=>(DX.get bx bk m s.CU).map fun c=>((a,c),m)
def BP.opened:BP→Bx
 | .sl d r=> .sl (d+1) r []
 |_=> .dead
def Cq.opens (s:Cq) (bx:List Bx):List Bx:=bx++s.CU.map BP.opened
def Cq.m0 (s:Cq):GI:=List.replicate s.CU.length none
structure KD where
 ins:Cq
 outs:Cq
 g:ins.V→Option outs.V
def KK (m:GI) (n:Nat) (i:Nat):Nat:=
 match m[i]? with
 |some (some b)=>b
 |_=>n+(i-m.length)
def K5 (ren:Nat→Nat):Nat→(l:List BP)→DX.V l→List Bx→List Bx
 |_,[],_,bx=>bx
 |i,p::l,x,bx=>K5 ren (i+1) l x.2 (if ren i<bx.length then bx.set (ren i) (p.mk ren x.1) else bx++[p.mk ren x.1])
def M7:(l:List (Nat×XP))→Cd.V l→(Nat→Nat)→XV
 |(_,p)::_,x,ren=>p.mk ren x.1
 |[],_,_=> .c .undef
def I8:Nat:=2^36
section ops
variable {Y:Type}
abbrev K (Y:Type):=XV→St→Option Y
def St.new (σ:St) (b:Bx):St:={ σ with bx:=σ.bx++[b] }
def ZD (x:Bool) (a b:XV) (σ:St) (k:K Y):Option Y:=cond x (k a σ) (k b σ)
def NJ (op:BinOp) (κ:IntKind) (a b:Int) (k:AV→Option Y):Option Y:=
 match op with
 | .add=>k (.v (.int κ) (κ.wrap (a+b)))
 | .sub=>k (.v (.int κ) (κ.wrap (a-b)))
 | .mul=>k (.v (.int κ) (κ.wrap (a*b)))
 | .quo=>if b=0 then none else k (.v (.int κ) (κ.wrap (a.tdiv b)))
 | .rem=>if b=0 then none else k (.v (.int κ) (a.tmod b))
 | .and=>k (.v (.int κ) (κ.wrap (BitVec.ofInt κ.bits a &&& BitVec.ofInt κ.bits b).toNat))
 | .or=>k (.v (.int κ) (κ.wrap (BitVec.ofInt κ.bits a ||| BitVec.ofInt κ.bits b).toNat))
 | .xor=>k (.v (.int κ) (κ.wrap (BitVec.ofInt κ.bits a ^^^ BitVec.ofInt κ.bits b).toNat))
 | .andNot=>k (.v (.int κ) (κ.wrap (BitVec.ofInt κ.bits a &&& ~~~BitVec.ofInt κ.bits b).toNat))
 | .eql=>k (.v .bool (a==b))
 | .neq=>k (.v .bool (a !=b))
 | .lss=>k (.v .bool (decide (a<b)))
 | .leq=>k (.v .bool (decide (a≤b)))
 | .gtr=>k (.v .bool (decide (a>b)))
 | .geq=>k (.v .bool (decide (a≥b)))
 |_=>none
def KH (op:BinOp) (κ:IntKind) (a b:Int) (k:AV→Option Y):Option Y:=
 if b<0 then none else
 match op with
 | .shl=>k (.v (.int κ) (κ.wrap (a*2^min b.toNat κ.bits)))
 | .shr=>k (.v (.int κ) (a.fdiv (2^min b.toNat κ.bits)))
 |_=>none
def OL (op:BinOp) (a b:List UInt8) (k:AV→Option Y):Option Y:=
 match op with
 | .add=>if a.length+b.length≤I8 then k (.v .str (a++b)) else none
 | .eql=>k (.v .bool (a==b))
 | .neq=>k (.v .bool (!(a==b)))
 | .lss=>k (.v .bool (Op.bytesLess a b))
 | .leq=>k (.v .bool (Op.bytesLess a b||a==b))
 | .gtr=>k (.v .bool (!(Op.bytesLess a b||a==b)))
 | .geq=>k (.v .bool (!Op.bytesLess a b))
 |_=>none
def RL:TD→AV→AV→Option Bool
 | .int _,.v (.int j) a,.v (.int k) b=>if j=k then some (a==b) else none
 | .bool,.v .bool a,.v .bool b=>some (a==b)
 | .str,.v .str a,.v .str b=>some (a==b)
 |_,_,_=>none
def EE (T:Dp):Nat→List nB→List AV→List AV→Option Bool
 |_,[],[],[]=>some true
 |i,(o,t)::fs,x::l,z::m=>
  if o=i then
   match T.get t with
   |some ti=>match RL ti.desc x z with
    |some p=>(EE T (i+1) fs l m).map fun r=>p&&r
    |none=>none
   |none=>none
  else none
 |_,_,_,_=>none
def Dp.fields (T:Dp) (t:Nat):Option (List nB):=
 match (T.get t).map TI.desc with
 |some (.st fs)=>some fs
 |_=>none
def Ub (T:Dp) (t:Nat) (op:BinOp) (a b:XV) (k:AV→Option Y):Option Y:=
 match a,b with
 | .c (.v (.int j) x),.c (.v (.int j') y)=>
  match op with
  | .shl| .shr=>KH op j x y k
  |_=>if j=j' then NJ op j x y k else none
 | .c (.v .str x),.c (.v .str y)=>OL op x y k
 | .c (.v .bool x),.c (.v .bool y)=>
  match T.get t with
  |some ti=>match ti.desc with
   | .bool=>match op with
    | .eql=>k (.v .bool (x==y))
    | .neq=>k (.v .bool (!(x==y)))
    |_=>none
   |_=>none
  |none=>none
 | .agg l,.agg m=>
  match op,(T.fields t).bind fun fs=>EE T 0 fs l m with
  | .eql,some r=>k (.v .bool r)
  | .neq,some r=>k (.v .bool (!r))
  |_,_=>none
 |_,_=>none
def aw (op:UnOp) (a:XV) (k:AV→Option Y):Option Y:=
 match op,a with
 | .not,.c (.v .bool x)=>k (.v .bool (!x))
 | .neg,.c (.v (.int j) x)=>k (.v (.int j) (j.wrap (0-x)))
 |_,_=>none
def WN (d b:Nat) (p:List Pd) (s:Pd):((t:Ty)×t.D)→AV
 |⟨.sl r,x⟩=>if d≤1 then .sl true r x else .ref b (p++[s])
 |⟨t,x⟩=>if t.scalar then .v t x else .undef
def U6 (s:Bool):((t:Ty)×t.D)→AV
 |⟨.sl r,x⟩=> .sl s r x
 |⟨t,x⟩=>if t.scalar then .v t x else .undef
def Mi (f:Nat→Option AV):Nat→Nat→Option (List AV)
 |_,0=>some []
 |j,n+1=>(f j).bind fun x=>(Mi f (j+1) n).map fun l=>x::l
def Dh (bx:List Bx):AV→Nat→Option AV
 | .C2 b j,i=>
  match bx[b]? with
  |some (.mem cs)=>cs[j+i]?
  |_=>none
 | .Di b p r sz j,i=>
  match bx[b]? with
  |some (.sl d q rows)=>if p.length<d then (Cb q rows p).bind fun s=>if sz=s.1.n then (AR s.1 (j+i) (rowAt s.1 s.2 r)).map (WN (d-p.length) b p ⟨r,sz,j+i⟩) else none else none
  |_=>none
 | .FU s r x j,i=>(AR r (j+i) x).map (U6 s)
 |_,_=>none
def Pf (T:Dp) (t:Nat) (σ:St) (a:XV):Option XV:=
 match a,T.get t with
 | .c a,some ti=>if ti.size=0 then none else if ti.desc.agg then (Mi (Dh σ.bx a) 0 ti.size).map .agg else (Dh σ.bx a 0).map .c
 |_,_=>none
def Mc (d:Nat) (t:Ty) (x:AV) (bx:List Bx):Option (t.D×List Bx×Nat):=
 match x with
 | .v u y=>(Gm (β:=Ty.D) u t y).map fun y=>(y,bx,d)
 | .nil=>match t with
  | .sl _=>some ([],bx,d)
  |_=>none
 | .sl true r y=>match t with
  | .sl q=>(Gm (β:=fun r=>List r.D) r q y).map fun y=>(y,bx,1)
  |_=>none
 | .ref b []=>match t with
  | .sl q=>
   match bx[b]? with
   |some (.sl d' r y)=>(Gm (β:=fun r=>List r.D) r q y).map fun y=>(y,bx.set b .dead,min d (d'+1))
   |_=>none
  |_=>none
 | .NB b [] off n=>match t with
  | .sl q=>
   match bx[b]? with
   |some (.sl d' r y)=>(Gm (β:=fun r=>List r.D) r q ((y.drop off).take n)).map fun y=>(y,bx.set b .dead,min d (d'+1))
   |_=>none
  |_=>none
 |_=>none
def cellsIn (d:Nat):(r:Ty)→List AV→List Bx→Option (r.D×List Bx×Nat)
 | .unit,[],bx=>some ((),bx,d)
 | .cons c r,x::l,bx=>(Mc d c x bx).bind fun a=>(cellsIn a.2.2 r l a.2.1).map fun b=>((a.1,b.1),b.2)
 |_,_,_=>none
def Xw (d:Nat) (r:Ty) (x:XV) (bx:List Bx):Option (r.D×List Bx×Nat):=
 match x with
 | .agg l=>cellsIn d r l bx
 | .c x=>Mc d r x bx
 |_=>none
def Dm (b:Nat):AV→AV
 | .ref b' (s::p)=>if b' =b then .undef else .ref b' (s::p)
 | .NB b' (s::p) i n=>if b' =b then .undef else .NB b' (s::p) i n
 | .Di b' (s::p) i sz j=>if b' =b then .undef else .Di b' (s::p) i sz j
 |x=>x
def To (b:Nat):XV→XV
 | .c x=> .c (Dm b x)
 | .agg l=> .agg (l.map (Dm b))
 | .Hi l=> .Hi (l.map fun| .inl x=> .inl (Dm b x)| .inr q=> .inr (q.map (Dm b)))
def WB (b:Nat):Bx→Bx
 | .mem cs=> .mem (cs.map (Dm b))
 |x=>x
def St.V8 (b:Nat) (σ:St):St:={ tm:=σ.tm.map (To b),bx:=σ.bx.map (WB b) }
def Jh (cs:List AV):Nat→List AV→Option (List AV)
 |_,[]=>some cs
 |j,x::l=>if j<cs.length then Jh (cs.set j x) (j+1) l else none
def RF (d:Nat) (r:Ty) (cx:r.D) (j:Nat) (x:XV) (bx:List Bx):Option (r.D×List Bx×Nat):=
 match x with
 | .agg l=>if j=0 then cellsIn d r l bx else none
 | .c x=>
  match AR r j cx with
  |some ⟨t,_⟩=>(Mc d t x bx).bind fun a=>(BR r j cx t a.1).map fun row=>(row,a.2)
  |none=>none
 |_=>none
def XV.plain:XV→Bool
 | .c (.v _ _)=>true
 |_=>false
def Nh (σ:St) (a:XV) (x:XV):Option St:=
 match a with
 | .c (.C2 b j)=>
  match σ.bx[b]? with
  |some (.mem cs)=>(Jh cs j x.cells).map fun cs=>{ σ with bx:=σ.bx.set b (.mem cs) }
  |_=>none
 | .c (.Di b p i sz j)=>
  match σ.bx[b]? with
  |some (.sl d r rows)=>if p.length<d then
   (Cb r rows p).bind fun s=>if sz=s.1.n then (RF (d-p.length) s.1 (rowAt s.1 s.2 i) j x (σ.bx.set b .dead)).bind fun w=>
    (Qe r rows p s.1 (s.2.set i w.1)).map fun rows=>
     let σ':St:={ σ with bx:=w.2.1.set b (.sl (w.2.2+p.length) r rows) }
     if x.plain then σ' else σ'.V8 b
    else none
   else none
  |_=>none
 |_=>none
def LG (σ:St) (a x:XV):Option (St×XV):=
 match a,x with
 | .c (.Di b _ _ _ _),.c (.NB b' (s::p') off n)=>
  if b' =b then
   match σ.bx[b]? with
   |some (.sl d r rows)=>(Cb r rows (s::p')).map fun q=>({ σ with bx:=σ.bx.set b (.sl (min d (p'.length+1)) r rows) },.c (.sl true q.1 ((q.2.drop off).take n)))
   |_=>none
  else none
 |_,_=>some (σ,x)
def Me (σ:St) (a x:XV):Option St:=(LG σ a x).bind fun q=>Nh q.1 a q.2
def QG (bx:List Bx) (x:AV):Option ((r:Ty)×(List r.D×List Bx×Nat)):=
 match x with
 | .v .str s=>some ⟨.int .u8,s.map (fun c=>(c.toNat:Int)),bx,9⟩
 | .sl s r rows=>if r.flat then some ⟨r,rows,bx,9⟩ else if s then some ⟨r,rows,bx,1⟩ else none
 | .ref b []=>
  match bx[b]? with
  |some (.sl d r rows)=>if r.flat then some ⟨r,rows,bx,9⟩ else some ⟨r,rows,bx.set b .dead,d⟩
  |_=>none
 | .ref b p=>
  match bx[b]? with
  |some (.sl _ r rows)=>(Cb r rows p).bind fun q=>if q.1.flat then some ⟨q.1,q.2,bx,9⟩ else none
  |_=>none
 | .NB b p off n=>
  match bx[b]? with
  |some (.sl _ r rows)=>(Cb r rows p).bind fun q=>if q.1.flat then some ⟨q.1,(q.2.drop off).take n,bx,9⟩ else none
  |_=>none
 |_=>none
def QU (bx:List Bx) (x:AV):Option ((r:Ty)×(List r.D×List Bx×Nat)):=
 match x with
 | .ref b []=>
  match bx[b]? with
  |some (.sl d r rows)=>some ⟨r,rows,bx.set b .dead,d⟩
  |_=>none
 | .NB b [] off n=>
  match bx[b]? with
  |some (.sl d r rows)=>some ⟨r,(rows.drop off).take n,bx.set b .dead,d⟩
  |_=>none
 |_=>none
def Dp.elem (T:Dp) (t:Nat):Option TI:=
 match (T.get t).map TI.desc with
 |some (.sl e)=>T.get e
 |_=>none
def Dp.Hf (T:Dp) (t:Nat) (r:Ty):Bool:=
 match T.elem t with
 |some ti=>decide (ti.size=r.n)&&decide (ti.bytes≤512)&&decide (ti.row=some r)
 |none=>false
def Dp.isStr (T:Dp) (t:Nat):Bool:=
 match (T.get t).map TI.desc with
 |some .str=>true
 |_=>false
def Dp.Zj (T:Dp) (t:Nat):Bool:=
 match (T.get t).map TI.desc with
 |some (.sl _)=>true
 |_=>false
def M8 (T:Dp) (ts:Array TypeId) (σ:St) (a x:XV) (k:K Y):Option Y:=
 match ts[0]?,ts[1]? with
 |some t,some u=>
  if T.Zj u||T.isStr u then
   match a,x with
   | .c .nil,.c y=>
    (QG σ.bx y).bind fun s=>if T.Hf t s.1 then
     if s.2.1.length≤I8 then k (.c (.ref s.2.2.1.length [])) { σ with bx:=s.2.2.1++[.sl s.2.2.2 s.1 s.2.1] } else none
     else none
   | .c a,.c y=>
    (QU σ.bx a).bind fun d=>if T.Hf t d.1 then (QG d.2.2.1 y).bind fun s=>
     (Gm (β:=fun r=>List r.D) s.1 d.1 s.2.1).bind fun rows=>
      if d.2.1.length+rows.length≤I8 then
       k (.c (.ref s.2.2.1.length [])) { σ with bx:=s.2.2.1++[.sl (min d.2.2.2 s.2.2.2) d.1 (d.2.1++rows)] }
      else none
     else none
   |_,_=>none
  else none
 |_,_=>none
def O8 (T:Dp) (ts:Array TypeId) (σ:St) (x:XV) (k:K Y):Option Y:=
 match ts[0]?,x with
 |some t,.c (.NB b [] off n)=>
  match σ.bx[b]? with
  |some (.sl d r rows)=>if T.Hf t r&&r.scalar then k (.c .undef) { σ with bx:=σ.bx.set b (.sl d r ((rows.take off++List.replicate n r.z)++rows.drop (off+n))) } else none
  |_=>none
 |_,_=>none
def MY:XV→Option Int
 | .c (.v (.int _) n)=>some n
 |_=>none
def FT (len:Nat) (lo hi:Option XV) (k:Nat→Nat→Option Y):Option Y:=
 let h:Option Int:=match hi with
  |none=>some (len:Int)
  |some x=>MY x
 let l:Option Int:=match lo with
  |none=>some 0
  |some x=>MY x
 match l,h with
 |some l,some h=>if 0≤l∧l≤h∧h≤(len:Int) then k l.toNat h.toNat else none
 |_,_=>none
def O1 (T:Dp) (t:Nat) (σ:St) (x:XV) (lo hi:Option XV) (k:K Y):Option Y:=
 match x with
 | .c (.v .str s)=>if T.isStr t then FT s.length lo hi fun l h=>k (.c (.v .str ((s.drop l).take (h-l)))) σ else none
 | .c (.sl s r rows)=>if T.Hf t r then FT rows.length lo hi fun l h=>k (.c (.sl s r ((rows.drop l).take (h-l)))) σ else none
 | .c (.ref b p)=>
  match E4 σ.bx (.ref b p) with
  |some q=>if T.Hf t q.1 then FT q.2.length lo hi fun l h=>k (.c (.NB b p l (h-l))) σ else none
  |none=>none
 |_=>none
def O3 (σ:St) (T:Dp) (t:Nat) (x i:XV) (k:K Y):Option Y:=
 match x,MY i with
 | .c (.sl s r rows),some i=>if T.Hf t r then (if 0≤i∧i<(rows.length:Int) then k (.c (.FU s r (rowAt r rows i.toNat) 0)) σ else none) else none
 | .c (.ref b p),some i=>
  match E4 σ.bx (.ref b p) with
  |some q=>if T.Hf t q.1 then (if 0≤i∧i<(q.2.length:Int) then k (.c (.Di b p i.toNat q.1.n 0)) σ else none) else none
  |none=>none
 | .c (.NB b p off n),some i=>
  match E4 σ.bx (.ref b p) with
  |some q=>if T.Hf t q.1 then (if 0≤i∧i<(n:Int) then k (.c (.Di b p (off+i.toNat) q.1.n 0)) σ else none) else none
  |none=>none
 |_,_=>none
def TY (T:Dp) (t:Nat) (x:XV) (f:Nat):Option XV:=
 match T.get t with
 |some ⟨_,_,.st fs,_⟩=>
  match fs[f]? with
  |some (o,_)=>match x with
   | .c (.C2 b j)=>some (.c (.C2 b (j+o)))
   | .c (.Di b p i sz j)=>some (.c (.Di b p i sz (j+o)))
   | .c (.FU s r y j)=>some (.c (.FU s r y (j+o)))
   |_=>none
  |none=>none
 |_=>none
def X9 (T:Dp) (t:Nat) (x:XV) (f:Nat):Option XV:=
 match T.get t,x with
 |some ⟨_,_,.st fs,_⟩,.agg l=>
  match fs[f]? with
  |some (o,u)=>
   match T.get u with
   |some ti=>if ti.desc.agg then some (.agg ((l.drop o).take ti.size)) else (l[o]?).map .c
   |none=>none
  |none=>none
 |_,_=>none
def SZ (T:Dp) (src dst:Nat) (σ:St) (x:XV) (k:K Y):Option Y:=
 match (T.get src).map TI.desc,(T.get dst).map TI.desc,x with
 |some (.int _),some (.int κ),.c (.v (.int _) n)=>k (.c (.v (.int κ) (κ.wrap n))) σ
 |some .str,some .str,.c (.v .str s)=>k (.c (.v .str s)) σ
 |some .str,some (.sl e),.c (.v .str s)=>
  match (T.get e).map TI.desc with
  |some (.int .u8)=>if s.length≤I8 then k (.c (.ref σ.bx.length [])) (σ.new (.sl 9 (.int .u8) (s.map fun c=>(c.toNat:Int)))) else none
  |_=>none
 |some (.sl e),some .str,.c x=>
  match (T.get e).map TI.desc,Et σ.bx (.sl (.int .u8)) x with
  |some (.int .u8),some l=>k (.c (.v .str (l.map fun n:Int=>UInt8.ofNat n.toNat))) σ
  |_,_=>none
 |_,_,_=>none
def Sh (T:Dp) (t:Nat) (σ:St) (l c:XV) (k:K Y):Option Y:=
 match (T.get t).map TI.desc,MY l,MY c with
 |some (.sl e),some n,some m=>
  match Dp.On T e with
  |some r=>if T.Hf t r then (if 0≤n∧n≤m∧m≤(I8:Int) then k (.c (.ref σ.bx.length [])) (σ.new (.sl 9 r (List.replicate n.toNat r.z))) else none) else none
  |none=>none
 |_,_,_=>none
def Nl (T:Dp) (fs:List nB):List AV→List (Nat×XV)→Option (List AV)
 |cs,[]=>some cs
 |cs,(i,x)::l=>
  match fs[i]? with
  |some (o,u)=>
   match T.get u with
   |some ti=>if x.cells.length=ti.size∧ti.size≠0∧x.cells.all AV.known=true then (Jh cs o x.cells).bind fun cs=>Nl T fs cs l else none
   |none=>none
  |none=>none
def KG (r:Ty):Nat→Nat→List (Nat×XV)→List Bx→Nat→Option (List r.D×List Bx×Nat)
 |_,0,[],bx,d=>some ([],bx,d)
 |i,n+1,(j,x)::l,bx,d=>
  if i=j then (Xw d r x bx).bind fun a=>(KG r (i+1) n l a.2.1 a.2.2).map fun b=>(a.1::b.1,b.2) else none
 |i,n+1,[],bx,d=>(KG r (i+1) n [] bx d).map fun b=>(r.z::b.1,b.2)
 |_,0,_::_,_,_=>none
def Gr (T:Dp) (t n:Nat) (parts:List (Nat×XV)) (σ:St) (k:K Y):Option Y:=
 match (T.get t).map TI.desc with
 |some (.sl e)=>
  match Dp.On T e with
  |some r=>if T.Hf t r&&decide (n≤1024)&&decide (r.n≤1024) then (KG r 0 n parts σ.bx 9).bind fun a=>k (.c (.ref a.2.1.length [])) { σ with bx:=a.2.1++[.sl a.2.2 r a.1] } else none
  |none=>none
 |_=>none
def JY (T:Dp) (t:Nat) (σ:St) (x i:XV) (k:K Y):Option Y:=
 match x,MY i with
 | .c (.v .str s),some i=>if T.isStr t then if 0≤i∧i<(s.length:Int) then k (.c (.v (.int .u8) ((s.getD i.toNat 0).toNat:Int))) σ else none else none
 |_,_=>none
def Qf (x:XV) (i:Nat):Option XV:=
 match x with
 | .Hi l=>match l[i]? with
  |some (.inl a)=>some (.c a)
  |some (.inr q)=>some (.agg q)
  |none=>none
 |_=>none
def Br (m:GI):AV→AV
 | .ref b (s::p)=>if m.contains (some b) then .undef else .ref b (s::p)
 | .NB b (s::p) i n=>if m.contains (some b) then .undef else .NB b (s::p) i n
 | .Di b (s::p) i sz j=>if m.contains (some b) then .undef else .Di b (s::p) i sz j
 |x=>x
def Ig (m:GI):XV→XV
 | .c x=> .c (Br m x)
 | .agg l=> .agg (l.map (Br m))
 | .Hi l=> .Hi (l.map fun| .inl x=> .inl (Br m x)| .inr q=> .inr (q.map (Br m)))
def ZJ (m:GI):Bx→Bx
 | .mem cs=> .mem (cs.map (Br m))
 |x=>x
def St.Jy (m:GI) (σ:St):St:=
 match m with
 |[]=>σ
 |_::_=>{ tm:=σ.tm.map (Ig m),bx:=σ.bx.map (ZJ m) }
def Pp (c:KD) (args:List XV) (σ:St) (k:K Y):Option Y:=
 if args.length=c.ins.Bb.length then
  match c.ins.fit σ.bx.length c.ins.m0 args (c.ins.opens σ.bx) with
  |some (v,m)=>(c.g v).bind fun u=>
   let ren:=KK m (c.ins.opens σ.bx).length
   let σ1:=({ σ with bx:=c.ins.opens σ.bx }:St).Jy m
   k (M7 c.outs.Bb u.1 ren) { σ1 with bx:=K5 ren 0 c.outs.CU u.2 (Ay σ1.bx m) }
  |none=>none
 else none
def Lk (σ:St) (x:XV) (k:K Y):Option Y:=
 match x with
 | .c (.NB b [] off n)=>
  (QU σ.bx (.NB b [] off n)).bind fun s=>k (.c (.ref s.2.2.1.length [])) { σ with bx:=s.2.2.1++[.sl s.2.2.2 s.1 s.2.1] }
 |x=>k x σ
def Uf (l:List XV):Option mu:=
 match l with
 |[]=>some []
 | .c (.C2 b 0)::l=>(Uf l).map fun r=>b::r
 |_=>none
def Tm (big:Bool) (a b:XV) (k:AV→Option Y):Option Y:=
 match a,b with
 | .c (.v (.int j) x),.c (.v (.int j') y)=>
  if j=j' then (if big then k (.v (.int j) (if y>x then y else x)) else k (.v (.int j) (if y<x then y else x))) else none
 |_,_=>none
def Jf (T:Dp) (Γ:Nat→Option KD) (o:Oper) (σ:St) (k:K Y):Option Y:=
 match o.op with
 | .move x=>k (σ.ev x) σ
 | .assign x=>Lk σ (σ.ev x) k
 | .pick c a b=>match σ.ev c with
  | .c (.v .bool x)=>ZD x (σ.ev a) (σ.ev b) σ k
  |_=>none
 | .alloc t=>match Dp.On T t with
  |some r=>k (.c (.C2 σ.bx.length 0)) (σ.new (.mem (LR r)))
  |none=>none
 | .box t x=>match T.get t with
  |some ti=>if (σ.ev x).cells.length=ti.size∧ti.size≠0∧(σ.ev x).cells.all AV.known=true then k (.c (.C2 σ.bx.length 0)) (σ.new (.mem (σ.ev x).cells)) else none
  |none=>none
 | .build t parts=>match T.get t,Dp.On T t with
  |some ⟨_,_,.st fs,_⟩,some r=>match Nl T fs (LR r) (parts.toList.map fun q=>(q.1,σ.ev q.2)) with
   |some cs=>k (.agg cs) σ
   |none=>none
  |_,_=>none
 | .buildSlice t n parts=>Gr T t n (parts.toList.map fun q=>(q.1,σ.ev q.2)) σ k
 | .load t a=>match Pf T t σ (σ.ev a) with
  |some x=>k x σ
  |none=>none
 | .store t a x=>match T.get t with
  |some ti=>if (σ.ev x).cells.length=ti.size∧ti.size≠0∧(σ.ev x).cells.all AV.known=true then (match Me σ (σ.ev a) (σ.ev x) with
   |some σ=>k (.c .undef) σ
   |none=>none) else none
  |none=>none
 | .nilCheck x=>match σ.ev x with
  | .c (.C2 b j)=>k (.c (.C2 b j)) σ
  | .c (.Di b p i sz j)=>k (.c (.Di b p i sz j)) σ
  | .c (.FU s r y j)=>k (.c (.FU s r y j)) σ
  | .c (.fn f Dr)=>k (.c (.fn f Dr)) σ
  |_=>none
 | .binOp op t x y _=>Ub T t op (σ.ev x) (σ.ev y) fun a=>k (.c a) σ
 | .unOp op _ x=>aw op (σ.ev x) fun a=>k (.c a) σ
 | .convert s d x=>SZ T s d σ (σ.ev x) k
 | .makeFunc (.func f) first Dr=>if first.size=0 then (match Uf (Dr.toList.map σ.ev) with
  |some bs=>k (.c (.fn f bs)) σ
  |none=>none) else none
 | .makeSlice t l c=>Sh T t σ (σ.ev l) (σ.ev c) k
 | .slice t x lo hi none=>O1 T t σ (σ.ev x) (lo.map σ.ev) (hi.map σ.ev) k
 | .fieldAddr t x f=>match TY T t (σ.ev x) f with
  |some y=>k y σ
  |none=>none
 | .field t x f=>match X9 T t (σ.ev x) f with
  |some y=>k y σ
  |none=>none
 | .indexAddr t x i=>O3 σ T t (σ.ev x) (σ.ev i) k
 | .index t x i=>JY T t σ (σ.ev x) (σ.ev i) k
 | .extract x i=>match Qf (σ.ev x) i with
  |some y=>k y σ
  |none=>none
 | .call { callee:= .value f,args,.. }=>match σ.ev f with
  | .c (.fn f Dr)=>match Γ f with
   |some c=>Pp c (args.toList.map σ.ev++Dr.map fun b=> .c (.C2 b 0)) σ k
   |none=>none
  | .c (.Sj f rows)=>match Γ f with
   |some c=>Pp c (args.toList.map σ.ev++rows.map fun q=> .c (.FU false q.1 q.2 0)) σ k
   |none=>none
  |_=>none
 | .call { callee:= .builtin .len,args,argTypes }=>match args.toList.map σ.ev,argTypes[0]? with
  |[.c (.v .str s)],some t=>if T.isStr t then k (.c (.v (.int .i64) (s.length:Int))) σ else none
  |[.c x],some t=>if T.Zj t then (match lenOf σ.bx x with
   |some n=>k (.c (.v (.int .i64) (n:Int))) σ
   |none=>none) else none
  |_,_=>none
 | .call { callee:= .builtin .append,args,argTypes }=>match args.toList.map σ.ev with
  |[a,x]=>M8 T argTypes σ a x k
  |_=>none
 | .call { callee:= .builtin .clear,args,argTypes }=>match args.toList.map σ.ev with
  |[x]=>O8 T argTypes σ x k
  |_=>none
 | .call { callee:= .builtin .max,args,.. }=>match args.toList.map σ.ev with
  |[a,x]=>Tm true a x fun a=>k (.c a) σ
  |_=>none
 | .call { callee:= .builtin .min,args,.. }=>match args.toList.map σ.ev with
  |[a,x]=>Tm false a x fun a=>k (.c a) σ
  |_=>none
 |_=>none
end ops
end Go.Fw
end
section
namespace Go.Fw
section
variable {Y:Type}
structure QP where
 T:Dp
 Γ:Nat→Option KD
 hint:Nat→List Nat
def Nn (hint:mu):XV→Bool
 | .c (.C2 b _)=>hint.contains b
 | .c (.Di b _ _ _ _)=>hint.contains b
 | .c (.FU _ _ _ _)=>true
 |_=>false
def OP (hint:mu) (σ:St):Op→Bool
 | .assign x=>match σ.ev x with
  | .c (.NB _ [] _ _)=>false
  |_=>true
 | .move _| .pick .. | .nilCheck _| .binOp .. | .unOp .. | .fieldAddr .. | .field .. | .indexAddr .. | .index .. | .extract .. | .build .. =>true
 | .slice _ _ _ _ none=>true
 | .load _ a=>Nn hint (σ.ev a)
 | .call { callee:= .builtin .len,.. }=>true
 | .call { callee:= .builtin .max,.. }=>true
 | .call { callee:= .builtin .min,.. }=>true
 |_=>false
def DM (Γ:Nat→Option KD) (σ:St):Op→List Nat
 | .store _ a _=>match σ.ev a with
  | .c (.C2 b _)=>[b]
  | .c (.Di b _ _ _ _)=>[b]
  |_=>[]
 | .call { callee:= .value f,args,.. }=>match σ.ev f with
  | .c (.fn f Dr)=>match Γ f with
   |some c=>match c.ins.fit σ.bx.length c.ins.m0 (args.toList.map σ.ev++Dr.map fun b=> .c (.C2 b 0)) (c.ins.opens σ.bx) with
    |some (_,m)=>m.filterMap id
    |none=>[]
   |none=>[]
  | .c (.Sj f rows)=>match Γ f with
   |some c=>match c.ins.fit σ.bx.length c.ins.m0 (args.toList.map σ.ev++rows.map fun q=> .c (.FU false q.1 q.2 0)) (c.ins.opens σ.bx) with
    |some (_,m)=>m.filterMap id
    |none=>[]
   |none=>[]
  |_=>[]
 | .call { callee:= .builtin .clear,args,.. }=>match args.toList.map σ.ev with
  |[.c (.NB b _ _ _)]=>[b]
  |_=>[]
 |_=>[]
def tt:XV:= .c (.v .bool true)
def ff:XV:= .c (.v .bool false)
def WR (C:QP) (ops:Array Oper) (o:Oper) (kn:St→Option Y) (σ:St):Option Y:=
 match o.guard with
 |none=>Jf C.T C.Γ o σ fun x σ' =>kn (σ'.put o.dst x)
 |some (j,want)=>
  match (ops[j]?).bind (·.dst) with
  |some t=>
   match σ.tm[t]? with
   |some (.c (.v .bool b))=>
    let yes (σ:St):Option Y:=Jf C.T C.Γ o σ fun x σ' =>kn (σ'.put o.dst x)
    let no (σ:St):Option Y:=kn (σ.put o.dst (.Hi []))
    cond b ((if want then yes else no) (σ.put (some t) tt)) ((if want then no else yes) (σ.put (some t) ff))
   |some (.Hi [])=>kn (σ.put o.dst (.Hi []))
   |_=>none
  |none=>none
def TQ (C:QP) (all:Array Oper):List Oper→(St→Option Y)→St→Option Y
 |[],kn,σ=>kn σ
 |o::rest,kn,σ=>WR C all o (fun σ' =>TQ C all rest kn σ') σ
def Vz (C:QP) (ops:Array Oper) (i:Nat) (kn:St→Option Y) (σ:St):Option Y:=
 match ops[i]? with
 |none=>none
 |some o=>WR C ops o kn σ
def O9 (bx:List Bx) (b:Nat):Bool:=
 match bx[b]? with
 |some .dead=>true
 |some _=>false
 |none=>true
def idle (ops:Array Oper) (σ:St) (o:Oper):Bool:=
 match o.guard with
 |none=>false
 |some (j,want)=>
  match (ops[j]?).bind (·.dst) with
  |some t=>
   match σ.tm[t]? with
   |some (.c (.v .bool b))=>b !=want
   |some (.Hi [])=>true
   |_=>false
  |none=>false
def RE (hint:mu) (ops:Array Oper) (BV:Array Bool) (σ:St) (i:Nat):Bool:=
 match ops[i]? with
 |some o=>(OP hint σ o.op||idle ops σ o)&&Region.free .any ops BV i
 |none=>false
def Tp (f:Nat→List Bool→Option Y):List Nat→List Bool→Option Y
 |[],_=>none
 |[i],ω=>f i ω
 |i::_::_,[]=>f i []
 |i::_::_,true::ω=>f i ω
 |_::j::r,false::ω=>Tp f (j::r) ω
def IW (C:QP) (hint:mu) (ops:Array Oper) (kn:List Bool→St→Option Y):Nat→Array Bool→List Bool→St→Option Y
 |fuel,BV,ω,σ=>
  if hint.all (fun b=> !O9 σ.bx b) then
   match Region.ready .any ops BV with
   |[]=>kn ω σ
   |rs=>
    match fuel with
    |0=>none
    |fuel+1=>
     match rs.find? (RE hint ops BV σ) with
     |some i=>Vz C ops i (fun σ' =>IW C hint ops kn fuel (BV.setIfInBounds i true) ω σ') σ
     |none=>Tp (fun i ω=>
      match ops[i]? with
      |some o=>if (DM C.Γ σ o.op).all (fun b=> !hint.contains b) then Vz C ops i (fun σ' =>IW C hint ops kn fuel (BV.setIfInBounds i true) ω σ') σ else none
      |none=>none) rs ω
  else none
def first:Code→Nat
 | .region id _ _=>id
 | .seq a _=>first a
 | .cond _ a _=>first a
 | .block _ a=>first a
 | .loop a=>first a
 | .scope a=>first a
 |_=>0
abbrev KN (Y:Type):=List Bool→St→Option Y
def run (C:QP) (J:Nat→St→Option Y):Code→KN Y→(Nat→KN Y)→KN Y→KN Y
 | .skip,kn,_,_,ω,σ=>kn ω σ
 | .region id ops draw,kn,_,_,ω,σ=>
  if draw then (if Region.noSelect ops then IW C (C.hint id) ops kn ops.size (Array.replicate ops.size false) ω σ else none) else TQ C ops ops.toList (kn ω) σ
 | .seq a b,kn,kx,kr,ω,σ=>run C J a (fun ω σ=>run C J b kn kx kr ω σ) kx kr ω σ
 | .cond (.tmp t) a b,kn,kx,kr,ω,σ=>
  match σ.tm[t]? with
  |some (.c (.v .bool x))=>cond x (run C J a kn kx kr ω (σ.put (some t) tt)) (run C J b kn kx kr ω (σ.put (some t) ff))
  |_=>none
 | .block id body,kn,kx,kr,ω,σ=>run C J body kn (fun j ω σ=>if j=id then kn ω σ else kx j ω σ) kr ω σ
 | .loop body,_,_,_,_,σ=>J (first body) σ
 | .exit id,_,kx,_,ω,σ=>kx id ω σ
 | .ret,_,_,kr,ω,σ=>kr ω σ
 |_,_,_,_,_,_=>none
def find (C:QP) (J:Nat→St→Option Y) (ℓ :Nat):Code→KN Y→(Nat→KN Y)→KN Y→Option (KN Y)
 | .seq a b,kn,kx,kr=>
  match find C J ℓ a (fun ω σ=>run C J b kn kx kr ω σ) kx kr with
  |some f=>some f
  |none=>find C J ℓ b kn kx kr
 | .cond _ a b,kn,kx,kr=>
  match find C J ℓ a kn kx kr with
  |some f=>some f
  |none=>find C J ℓ b kn kx kr
 | .block id body,kn,kx,kr=>find C J ℓ body kn (fun j ω σ=>if j=id then kn ω σ else kx j ω σ) kr
 | .loop body,_,kx,kr=>
  if first body= ℓ then some (fun ω σ=>run C J body (fun _ σ=>J ℓ σ) kx kr ω σ) else find C J ℓ body (fun _ σ=>J (first body) σ) kx kr
 |_,_,_,_=>none
def Yv (T:Dp) (σ:St):ResultVar→Option XV
 | .tmp t=>σ.tm[t]?
 | .cell a t=>match σ.tm[a]? with
  |some x=>Pf T t σ x
  |none=>none
def T9:List XV→Option (List (AV ⊕ List AV))
 |[]=>some []
 | .c x::l=>(T9 l).map fun r=> .inl x::r
 | .agg q::l=>(T9 l).map fun r=> .inr q::r
 |_=>none
def Q0 (T:Dp) (σ:St) (rs:List ResultVar):Option XV:=
 match rs.mapM (Yv T σ) with
 |some [x]=>some x
 |some l=>(T9 l).map .Hi
 |none=>none
def H8:Nat→Nat→List BP→GI
 |_,_,[]=>[]
 |i,n,p::l=>(match p with| .gone=>none|_=>if i<n then some i else none)::H8 (i+1) n l
def SE (T:Dp) (c:KD) (rs:List ResultVar) (σ:St):Option c.outs.V:=
 (Q0 T σ rs).bind fun x=>(c.outs.fit σ.bx.length (H8 0 c.ins.CU.length c.outs.CU) [x] (c.outs.opens σ.bx)).map fun q=>q.1
def I5 (C:QP) (c:KD) (fn:Func) (J:Nat→St→Option c.outs.V) (ω:List Bool) (v:c.ins.V):Option c.outs.V:=
 match fn.body with
 |some code=>run C J code (fun _=>SE C.T c fn.results.toList) (fun _ _ _=>none) (fun _=>SE C.T c fn.results.toList) ω (c.ins.st fn.ntmps v)
 |none=>none
def Pj (C:QP) (c:KD) (fn:Func) (J:Nat→St→Option c.outs.V) (ℓ :Nat) (ω:List Bool) (σ:St):Option c.outs.V:=
 match fn.body with
 |some code=>
  match find C J ℓ code (fun _=>SE C.T c fn.results.toList) (fun _ _ _=>none) (fun _=>SE C.T c fn.results.toList) with
  |some f=>f ω σ
  |none=>none
 |none=>none
def AV.Q3 (b:Nat) (r:Ty) (rows:List r.D):AV→AV
 | .ref k []=>if k=b then .sl true r rows else .ref k []
 |x=>x
def XV.Q3 (b:Nat) (r:Ty) (rows:List r.D):XV→XV
 | .c x=> .c (x.Q3 b r rows)
 |x=>x
def Bx.Q3 (b:Nat) (r:Ty) (rows:List r.D):Bx→Bx
 | .mem cs=> .mem (cs.map (AV.Q3 b r rows))
 |x=>x
def St.Q3 (b:Nat) (σ:St):St:=
 match σ.bx[b]? with
 |some (.sl _ r rows)=>{ tm:=σ.tm.map (XV.Q3 b r rows),bx:=(σ.bx.set b .dead).map (Bx.Q3 b r rows) }
 |_=>σ
def GO:List AP→List AV→St→St
 | .sl true _::l,.ref b []::xs,σ=>GO l xs (σ.Q3 b)
 |_::l,_::xs,σ=>GO l xs σ
 |_,_,σ=>σ
def GS (bs:List BP):List (Nat×XP)→St→St
 |[],σ=>σ
 |(i,.c (.sl true r))::l,σ=>
  match σ.tm[i]? with
  |some (.c x)=>GS bs l (GO [.sl true r] [x] σ)
  |_=>GS bs l σ
 |(i,.c (.ptr k _))::l,σ=>
  match bs[k]?,σ.tm[i]? with
  |some (.mem ps),some (.c (.C2 b _))=>
   match σ.bx[b]? with
   |some (.mem cs)=>GS bs l (GO ps cs σ)
   |_=>GS bs l σ
  |_,_=>GS bs l σ
 |_::l,σ=>GS bs l σ
def AV.S7:AV→Bool
 | .ref _ _| .NB _ _ _ _| .sl _ _ _| .nil=>true
 |_=>false
def St.forget (b j:Nat) (σ:St):St:=
 match σ.bx[b]? with
 |some (.mem cs)=>
  match cs[j]? with
  |some x=>if x.S7 then { σ with bx:=σ.bx.set b (.mem (cs.set j (.ref σ.bx.length [])))++[.dead] } else σ
  |none=>σ
 |_=>σ
def Jl (bs:List BP) (b:Nat):Nat→List AP→St→St
 |_,[],σ=>σ
 |j,p::l,σ=>Jl bs b (j+1) l (match p with
  | .ref q=>match bs[q]? with
   |some .gone=>σ.forget b j
   |_=>σ
  |_=>σ)
def MV (bs:List BP):List (Nat×XP)→St→St
 |[],σ=>σ
 |(i,p)::l,σ=>MV bs l (match p with
  | .c (.ptr k _)=>match bs[k]?,σ.tm[i]? with
   |some (.mem ps),some (.c (.C2 b _))=>Jl bs b 0 ps σ
   |_,_=>σ
  |_=>σ)
def jump (nb:Nat) (s:Cq) (f:s.V→Option Y) (σ:St):Option Y:=
 if nb≤s.CU.length then
  let σ:=MV s.CU s.Bb (GS s.CU s.Bb σ)
  (s.fit σ.bx.length (H8 0 nb s.CU) σ.tm (s.opens σ.bx)).bind fun q=>f q.1
 else none
end
end Go.Fw
end
section
namespace Go.Fw
def An (w:World) (b o:Nat) (cs:List Value):Prop:= ∀j v,cs[j]? =some v→w.cell? ⟨b,o+j,none⟩=some v
def Rd (w:World) (B:Nat→Prop):(t:Ty)→List Value→t.D→Prop
 | .int k,vs,x=>vs=[.int k x]
 | .bool,vs,x=>vs=[.bool x]
 | .str,vs,x=>vs=[.string ⟨x.toArray⟩]
 | .sl r,vs,x=> ∃a cap,vs=[.slice a (List.length x) cap]∧List.length x≤cap∧(List.length x=0∨ ∃b o,a=some ⟨b,o,none⟩∧B b∧
  ∀(i:Nat) (y:r.D),x[i]? =some y→ ∃cs,cs.length=r.n∧An w b (o+i*r.n) cs∧Rd w B r cs y)
 | .unit,vs,_=>vs=[]
 | .cons c r,vs,x=> ∃v l,vs=v::l∧Rd w B c [v] x.1∧Rd w B r l x.2
def Vx (fr:nB) (n:Nat):Prop:= ∀i,i<n→ ¬(fr.1≤i∧i<fr.2)
def Ow (w:World) (S:Nat→Prop):(d:Nat)→(t:Ty)→List Value→t.D→List Nat→Prop
 |0,.sl r,vs,x,F=>Rd w S (.sl r) vs x∧F=[]
 |d+1,.sl r,vs,x,F=> ∃a cap,vs=[.slice a (List.length x) cap]∧List.length x≤cap∧
  ((
   cap=0∧F=[])∨ ∃b o arr ty fr Fs,a=some ⟨b,o,none⟩∧w.heap[b]? =some (.cells arr ty fr)∧o+cap*r.n≤arr.size∧Vx fr arr.size∧
   F=b::List.flatten Fs∧Fs.length=List.length x∧
   ∀(i:Nat) (y:r.D) (G:mu),x[i]? =some y→Fs[i]? =some G→ ∃cs,cs.length=r.n∧An w b (o+i*r.n) cs∧Ow w S d r cs y G)
 |d,.cons c r,vs,x,F=> ∃v l F1 F2,vs=v::l∧F=F1++F2∧Ow w S d c [v] x.1 F1∧Ow w S d r l x.2 F2
 |_,.unit,vs,_,F=>vs=[]∧F=[]
 |_,.int k,vs,x,F=>vs=[.int k x]∧F=[]
 |_,.bool,vs,x,F=>vs=[.bool x]∧F=[]
 |_,.str,vs,x,F=>vs=[.string ⟨x.toArray⟩]∧F=[]
theorem PM {w B}: ∀{t:Ty} {vs x},Rd w B t vs x→vs.length=t.n
 | .int _,_,_,h=>by simp only [Rd] at h;subst h;rfl
 | .bool,_,_,h=>by simp only [Rd] at h;subst h;rfl
 | .str,_,_,h=>by simp only [Rd] at h;subst h;rfl
 | .sl _,_,_,h=>by simp only [Rd] at h;obtain ⟨_,_,h,_⟩:=h;subst h;rfl
 | .unit,_,_,h=>by simp only [Rd] at h;subst h;rfl
 | .cons _ _,_,_,h=>by
  simp only [Rd] at h
  obtain ⟨_,_,rfl,_,h⟩:=h
  simp [Ty.n,PM h]
theorem Kr {w S}: ∀{d} {t:Ty} {vs x F},Ow w S d t vs x F→vs.length=t.n
 |_,.int _,_,_,_,h=>by simp only [Ow] at h;rw [h.1];rfl
 |_,.bool,_,_,_,h=>by simp only [Ow] at h;rw [h.1];rfl
 |_,.str,_,_,_,h=>by simp only [Ow] at h;rw [h.1];rfl
 |0,.sl _,_,_,_,h=>by simp only [Ow] at h;exact PM h.1
 |_+1,.sl _,_,_,_,h=>by simp only [Ow] at h;obtain ⟨_,_,h,_⟩:=h;subst h;rfl
 |_,.unit,_,_,_,h=>by simp only [Ow] at h;rw [h.1];rfl
 |_,.cons _ _,_,_,_,h=>by
  simp only [Ow] at h
  obtain ⟨_,_,_,_,rfl,_,_,h⟩:=h
  simp [Ty.n,Kr h]
theorem An.HW {w w':World} {b o:Nat} {cs:List Value} (h:An w b o cs) (hb:w'.heap[b]? =w.heap[b]?):An w' b o cs:=
 fun j v hj=>(World.cell?_of_block (a:=⟨b,o+j,none⟩) hb).trans (h j v hj)
theorem B6 {w w':World} {B B':Nat→Prop} (hB: ∀b,B b→B' b) (hw: ∀b,B b→w'.heap[b]? =w.heap[b]?): ∀{t:Ty} {vs x},Rd w B t vs x→Rd w' B' t vs x
 | .int _,_,_,h=>by simpa only [Rd] using h
 | .bool,_,_,h=>by simpa only [Rd] using h
 | .str,_,_,h=>by simpa only [Rd] using h
 | .unit,_,_,h=>by simpa only [Rd] using h
 | .sl r,_,_,h=>by
  simp only [Rd] at h⊢
  obtain ⟨a,cap,h1,h2,h3⟩:=h
  refine ⟨a,cap,h1,h2,h3.imp id ?_⟩
  rintro ⟨b,o,ha,hb,h⟩
  refine ⟨b,o,ha,hB b hb,fun i y hy=> ?_⟩
  obtain ⟨cs,hl,hc,hr⟩:=h i y hy
  exact ⟨cs,hl,hc.HW (hw b hb),B6 hB hw hr⟩
 | .cons _ _,_,_,h=>by
  simp only [Rd] at h⊢
  obtain ⟨v,l,h1,h2,h3⟩:=h
  exact ⟨v,l,h1,B6 hB hw h2,B6 hB hw h3⟩
theorem Bd {w w':World} {S S':Nat→Prop} (hS: ∀b,S b→S' b) (hw: ∀b,S b→w'.heap[b]? =w.heap[b]?):
  ∀{d} {t:Ty} {vs x F},(∀b∈F,w'.heap[b]? =w.heap[b]?)→Ow w S d t vs x F→Ow w' S' d t vs x F
 |_,.int _,_,_,_,_,h=>by simpa only [Ow] using h
 |_,.bool,_,_,_,_,h=>by simpa only [Ow] using h
 |_,.str,_,_,_,_,h=>by simpa only [Ow] using h
 |_,.unit,_,_,_,_,h=>by simpa only [Ow] using h
 |0,.sl r,_,_,_,_,h=>by
  simp only [Ow] at h⊢
  exact ⟨B6 hS hw h.1,h.2⟩
 |d+1,.sl r,_,x,F,hF,h=>by
  simp only [Ow] at h⊢
  obtain ⟨a,cap,h1,h2,h3⟩:=h
  refine ⟨a,cap,h1,h2,h3.imp id ?_⟩
  rintro ⟨b,o,arr,ty,fr,Fs,ha,hb,h4,h5,h6,h7,h⟩
  subst h6
  have Z9:=hF b (by simp)
  refine ⟨b,o,arr,ty,fr,Fs,ha,Z9.trans hb,h4,h5,rfl,h7,fun i y G hy hG=> ?_⟩
  obtain ⟨cs,hl,hc,hr⟩:=h i y G hy hG
  refine ⟨cs,hl,hc.HW Z9,Bd hS hw (fun c hc=>hF c ?_) hr⟩
  exact List.mem_cons_of_mem _ (List.mem_flatten.2 ⟨G,List.mem_of_getElem? hG,hc⟩)
 |_,.cons _ _,_,_,_,hF,h=>by
  simp only [Ow] at h⊢
  obtain ⟨v,l,F1,F2,h1,h2,h3,h4⟩:=h
  subst h2
  exact ⟨v,l,F1,F2,h1,rfl,Bd hS hw (fun c hc=>hF c (by simp [hc])) h3,Bd hS hw (fun c hc=>hF c (by simp [hc])) h4⟩
theorem LL {w:World} {S:Nat→Prop}: ∀{d} {t:Ty} {vs x F},Ow w S d t vs x F→Rd w (fun b=>S b∨b∈F) t vs x
 |_,.int _,_,_,_,h=>by simp only [Ow] at h;simp only [Rd];exact h.1
 |_,.bool,_,_,_,h=>by simp only [Ow] at h;simp only [Rd];exact h.1
 |_,.str,_,_,_,h=>by simp only [Ow] at h;simp only [Rd];exact h.1
 |_,.unit,_,_,_,h=>by simp only [Ow] at h;simp only [Rd];exact h.1
 |0,.sl r,_,_,_,h=>by
  simp only [Ow] at h
  exact B6 (fun b hb=> .inl hb) (fun _ _=>rfl) h.1
 |d+1,.sl r,_,x,F,h=>by
  simp only [Ow] at h
  simp only [Rd]
  obtain ⟨a,cap,h1,h2,h3⟩:=h
  refine ⟨a,cap,h1,h2,?_⟩
  rcases h3 with ⟨hc,_⟩|⟨b,o,arr,ty,fr,Fs,ha,hb,h4,h5,h6,h7,h⟩
  ·exact .inl (by omega)
  ·refine .inr ⟨b,o,ha,.inr (by simp [h6]),fun i y hy=> ?_⟩
   have hi:i<Fs.length:=by
    have:=(List.getElem?_eq_some_iff.1 hy).1
    omega
   obtain ⟨cs,hl,hc,hr⟩:=h i y Fs[i] hy (List.getElem?_eq_getElem hi)
   refine ⟨cs,hl,hc,B6 ?_ (fun _ _=>rfl) (LL hr)⟩
   intro c Mg
   rcases Mg with Mg|Mg
   ·exact .inl Mg
   ·exact .inr (by rw [h6];exact List.mem_cons_of_mem _ (List.mem_flatten.2 ⟨_,List.getElem_mem hi,Mg⟩))
 |_,.cons _ _,_,_,_,h=>by
  simp only [Ow] at h
  simp only [Rd]
  obtain ⟨v,l,F1,F2,h1,h2,h3,h4⟩:=h
  subst h2
  refine ⟨v,l,h1,B6 ?_ (fun _ _=>rfl) (LL h3),B6 ?_ (fun _ _=>rfl) (LL h4)⟩
  ·intro c hc;exact hc.imp id (by simp_all)
  ·intro c hc;exact hc.imp id (by simp_all)
theorem Dv {w:World} {S:Nat→Prop}: ∀{d d'} {t:Ty} {vs x F},d≤d'→Ow w S d' t vs x F→
  ∃F1 F2,F.Perm (F1++F2)∧Ow w (fun b=>S b∨b∈F2) d t vs x F1
 |_,_,.int _,_,_,_,_,h=>by simp only [Ow] at h⊢;exact ⟨[],[],by rw [h.2];simp,h.1,rfl⟩
 |_,_,.bool,_,_,_,_,h=>by simp only [Ow] at h⊢;exact ⟨[],[],by rw [h.2];simp,h.1,rfl⟩
 |_,_,.str,_,_,_,_,h=>by simp only [Ow] at h⊢;exact ⟨[],[],by rw [h.2];simp,h.1,rfl⟩
 |_,_,.unit,_,_,_,_,h=>by simp only [Ow] at h⊢;exact ⟨[],[],by rw [h.2];simp,h.1,rfl⟩
 |0,d',.sl r,_,x,F,_,h=>by
  refine ⟨[],F,by simp,?_⟩
  simp only [Ow]
  exact ⟨LL h,trivial⟩
 |d+1,0,.sl r,_,x,F,hd,h=>by omega
 |d+1,d'+1,.sl r,_,x,F,hd,h=>by
  simp only [Ow] at h⊢
  obtain ⟨a,cap,h1,h2,h3⟩:=h
  rcases h3 with ⟨hc,hF⟩|⟨b,o,arr,ty,fr,Fs,ha,hb,h4,h5,h6,h7,h⟩
  ·exact ⟨[],[],by simp [hF],a,cap,h1,h2,.inl ⟨hc,rfl⟩⟩
  ·have key: ∀(n:Nat) (Fs:List mu) (y:List r.D),Fs.length=n→y.length=n→(∀(i:Nat) (z:r.D) (G:mu),y[i]? =some z→Fs[i]? =some G→ ∃cs,cs.length=r.n∧An w b (o+i*r.n) cs∧Ow w S d' r cs z G)→
     ∃(Gs:List mu) (F2:mu),Fs.flatten.Perm (Gs.flatten++F2)∧Gs.length=n∧ ∀(i:Nat) (z:r.D) (G:mu),y[i]? =some z→Gs[i]? =some G→ ∃cs,cs.length=r.n∧An w b (o+i*r.n) cs∧Ow w (fun b=>S b∨b∈F2) d r cs z G:=by
    intro n
    induction n with
    |zero=>
     intro Fs y hF hy _
     obtain rfl:=List.eq_nil_of_length_eq_zero hF
     exact ⟨[],[],by simp,rfl,fun i z G _ hG=>by simp at hG⟩
    |succ n ih=>
     intro Fs y hF hy hh
     obtain ⟨eW,G0,rfl⟩: ∃l a,Fs=l++[a]:=⟨Fs.dropLast,Fs.getLast (by intro e;simp [e] at hF),(List.dropLast_concat_getLast _).symm⟩
     obtain ⟨y',z0,rfl⟩: ∃l a,y=l++[a]:=⟨y.dropLast,y.getLast (by intro e;simp [e] at hy),(List.dropLast_concat_getLast _).symm⟩
     simp only [List.length_append,List.length_cons,List.length_nil] at hF hy
     obtain ⟨Gs,F2,hp,hl,hg⟩:=ih eW y' (by omega) (by omega) (fun i z G hz hG=>hh i z G
      (by rw [List.getElem?_append_left (List.getElem?_eq_some_iff.1 hz).1];exact hz) (by rw [List.getElem?_append_left (List.getElem?_eq_some_iff.1 hG).1];exact hG))
     obtain ⟨cs,V1,hc,ho⟩:=hh n z0 G0 (by rw [List.getElem?_append_right (by omega)];simp [show n-y'.length=0 by omega]) (by rw [List.getElem?_append_right (by omega)];simp [show n-eW.length=0 by omega])
     obtain ⟨H1,H2,hhp,hho⟩:=Dv (d:=d) (d':=d') (by omega) ho
     refine ⟨Gs++[H1],F2++H2,?_,by simp [hl],?_⟩
     ·simp only [List.flatten_append,List.flatten_cons,List.flatten_nil,List.append_nil]
      refine (hp.append hhp).trans ?_
      rw [List.append_assoc,List.append_assoc]
      refine List.Perm.append_left _ ?_
      rw [←List.append_assoc,←List.append_assoc]
      exact List.Perm.append_right _ List.perm_append_comm
     ·intro i z G hz hG
      by_cases hi:i<n
      ·rw [List.getElem?_append_left (by omega)] at hz hG
       obtain ⟨cs,e1,e2,e3⟩:=hg i z G hz hG
       exact ⟨cs,e1,e2,Bd (by intro c hc;exact hc.imp id (by simp_all)) (fun _ _=>rfl) (fun _ _=>rfl) e3⟩
      ·have:i=n:=by
        have:=(List.getElem?_eq_some_iff.1 hz).1
        simp at this;omega
       subst this
       rw [List.getElem?_append_right (by omega)] at hz hG
       simp [show i-y'.length=0 by omega,show i-Gs.length=0 by omega] at hz hG
       subst hz hG
       exact ⟨cs,V1,hc,Bd (by intro c hc;exact hc.imp id (by simp_all)) (fun _ _=>rfl) (fun _ _=>rfl) hho⟩
   obtain ⟨Gs,F2,hp,hl,hg⟩:=key _ Fs x h7 rfl h
   refine ⟨b::Gs.flatten,F2,?_,a,cap,h1,h2,.inr ⟨b,o,arr,ty,fr,Gs,ha,hb,h4,h5,rfl,hl,hg⟩⟩
   rw [h6]
   exact List.Perm.cons _ hp
 |d,d',.cons _ _,_,_,_,hd,h=>by
  simp only [Ow] at h⊢
  obtain ⟨v,l,F1,F2,h1,h2,h3,h4⟩:=h
  obtain ⟨A1,A2,pa,oa⟩:=Dv hd h3
  obtain ⟨B1,B2,pb,ob⟩:=Dv hd h4
  refine ⟨A1++B1,A2++B2,?_,v,l,A1,B1,h1,rfl,Bd (by intro c hc;exact hc.imp id (by simp_all)) (fun _ _=>rfl) (fun _ _=>rfl) oa,Bd (by intro c hc;exact hc.imp id (by simp_all)) (fun _ _=>rfl) (fun _ _=>rfl) ob⟩
  rw [h2]
  refine (pa.append pb).trans ?_
  rw [List.append_assoc,List.append_assoc]
  refine List.Perm.append_left _ ?_
  rw [←List.append_assoc,←List.append_assoc]
  exact List.Perm.append_right _ List.perm_append_comm
def RB (w:World):(t:Ty)→List Value→t.D→Nat→Prop
 | .sl r,vs,x,c=> ∃b o len cap,vs=[.slice (some ⟨b,o,none⟩) len cap]∧0<List.length x∧
  (c=b∨ ∃(i:Nat) (y:r.D) (cs:List Value),x[i]? =some y∧cs.length=r.n∧An w b (o+i*r.n) cs∧RB w r cs y c)
 | .cons c r,vs,x,d=> ∃v l,vs=v::l∧(RB w c [v] x.1 d∨RB w r l x.2 d)
 |_,_,_,_=>False
theorem An.unique {w:World} {b o:Nat} {cs ds:List Value} (h:An w b o cs) (k:An w b o ds) (hl:cs.length=ds.length):cs=ds:=by
 apply List.ext_getElem hl
 intro i h1 h2
 have e1:=h i _ (List.getElem?_eq_getElem h1)
 have e2:=k i _ (List.getElem?_eq_getElem h2)
 rw [e1] at e2
 exact Option.some.inj e2
theorem TS {w:World} {B:Nat→Prop} {c:Nat}: ∀{t:Ty} {vs x},Rd w B t vs x→RB w t vs x c→B c
 | .int _,_,_,_,h=>by simp [RB] at h
 | .bool,_,_,_,h=>by simp [RB] at h
 | .str,_,_,_,h=>by simp [RB] at h
 | .unit,_,_,_,h=>by simp [RB] at h
 | .sl r,_,x,h,k=>by
  simp only [Rd] at h
  simp only [RB] at k
  obtain ⟨a,cap,rfl,_,h⟩:=h
  obtain ⟨b,o,len,cap',e,hl,k⟩:=k
  simp only [List.cons.injEq,Value.slice.injEq,and_true] at e
  obtain ⟨rfl,rfl,rfl⟩:=e
  rcases h with h|⟨b',o',e,hb,h⟩
  ·omega
  simp only [Option.some.injEq,Addr.mk.injEq,and_true] at e
  obtain ⟨rfl,rfl⟩:=e
  rcases k with rfl|⟨i,y,cs,hy,V1,dj,k⟩
  ·exact hb
  ·obtain ⟨ds,d1,d2,d3⟩:=h i y hy
   have:=dj.unique d2 (by omega)
   subst this
   exact TS d3 k
 | .cons _ _,_,_,h,k=>by
  simp only [Rd] at h
  simp only [RB] at k
  obtain ⟨v,l,rfl,h1,h2⟩:=h
  obtain ⟨v',l',e,k⟩:=k
  cases e
  exact k.elim (TS h1) (TS h2)
theorem QO {w w':World} {c:Nat}: ∀{t:Ty} {vs x},(∀d,RB w t vs x d→w'.heap[d]? =w.heap[d]?)→RB w t vs x c→RB w' t vs x c
 | .int _,_,_,_,h=>by simp [RB] at h
 | .bool,_,_,_,h=>by simp [RB] at h
 | .str,_,_,_,h=>by simp [RB] at h
 | .unit,_,_,_,h=>by simp [RB] at h
 | .sl r,_,x,h,k=>by
  simp only [RB] at h k⊢
  obtain ⟨b,o,len,cap,e,hl,k⟩:=k
  refine ⟨b,o,len,cap,e,hl,?_⟩
  rcases k with rfl|⟨i,y,cs,hy,V1,dj,k⟩
  ·exact .inl rfl
  ·have hb:=h b ⟨b,o,len,cap,e,hl,.inl rfl⟩
   exact .inr ⟨i,y,cs,hy,V1,dj.HW hb,QO (fun d hd=>h d ⟨b,o,len,cap,e,hl,.inr ⟨i,y,cs,hy,V1,dj,hd⟩⟩) k⟩
 | .cons _ _,_,_,h,k=>by
  simp only [RB] at h k⊢
  obtain ⟨v,l,e,k⟩:=k
  refine ⟨v,l,e,k.elim (fun k=> .inl (QO (fun d hd=>h d ⟨v,l,e,.inl hd⟩) k)) (fun k=> .inr (QO (fun d hd=>h d ⟨v,l,e,.inr hd⟩) k))⟩
end Go.Fw
end
section
namespace Go.Fw
def Ai {α β:Type} (R:α→β→Prop):List α→List β→Prop
 |[],[]=>True
 |a::l,b::m=>R a b∧Ai R l m
 |_,_=>False
theorem Ai.len {α β:Type} {R:α→β→Prop}: ∀{l:List α} {m:List β},Ai R l m→l.length=m.length
 |[],[],_=>rfl
 |_::_,_::_,h=>by simp [Ai.len h.2]
theorem Ai.get {α β:Type} {R:α→β→Prop}: ∀{l:List α} {m:List β} {i:Nat} {a:α},Ai R l m→l[i]? =some a→ ∃b,m[i]? =some b∧R a b
 |_::_,_::_,0,a,h,e=>by simp at e;subst e;exact ⟨_,rfl,h.1⟩
 |_::_,_::_,i+1,a,h,e=>by
  obtain ⟨b,hb,hr⟩:=Ai.get (i:=i) h.2 (by simpa using e)
  exact ⟨b,by simpa using hb,hr⟩
 |[],[],_,_,_,e=>by simp at e
theorem Ai.imp {α β:Type} {R S:α→β→Prop} (h: ∀a b,R a b→S a b): ∀{l:List α} {m:List β},Ai R l m→Ai S l m
 |[],[],_=>trivial
 |_::_,_::_,k=>⟨h _ _ k.1,Ai.imp h k.2⟩
structure Env where
 C5:Nat→Nat
 DB:Nat→Value
 T:Nat→Prop
 S:Nat→Prop
def Df (w:World):Value→List Pd→Option Value
 |h,[]=>some h
 | .slice (some a) _ _,s::p=>
  match w.cell? ⟨a.block,a.off+s.i*s.sz+s.j,none⟩ with
  |some h=>Df w h p
  |none=>none
 |_,_::_=>none
def BA:(r:Ty)→List r.D→List Pd→Prop
 |_,_,[]=>True
 |r,rows,s::p=>s.i<rows.length∧s.sz=r.n∧
  match AR r s.j (rowAt r rows s.i) with
  |some ⟨.sl q,x⟩=>BA q x p
  |_=>False
def HB (sz off n:Nat) (a:Option Addr) (cap:Nat):Value:=
 .slice (if cap=off then a else a.map (·.add (off*sz))) n (cap-off)
def isSlice:Value→Bool
 | .slice .. =>true
 |_=>false
def L7:Value→Bool
 | .pointer (some ⟨_,_,none⟩)=>true
 |_=>false
def RA (E:Env) (w:World) (q:(r:Ty)×r.D) (p:Value):Prop:= ∃bb o cs,p= .pointer (some ⟨bb,o,none⟩)∧E.T bb∧cs.length=q.1.n∧An w bb o cs∧Rd w E.T q.1 cs q.2
def VR (E:Env) (w:World) (vw:List Bx):AV→Value→Prop
 | .v t x,v=>t.scalar=true∧Rd w (fun _=>False) t [v] x
 | .sl s r x,v=>Rd w (if s then E.S else E.T) (.sl r) [v] x
 | .nil,v=>v= .slice none 0 0
 | .ref b p,v=>isSlice v=true∧match vw[b]? with
  |some (.sl _ r rows)=>BA r rows p∧(∃q,Cb r rows p=some q)∧Df w (E.DB b) p=some v
  |some _=>True
  |none=>False
 | .NB b p off n,v=>isSlice v=true∧match vw[b]? with
  |some (.sl _ r rows)=>BA r rows p∧ ∃q ys a len cap,Cb r rows p=some ⟨q,ys⟩∧off+n≤List.length ys∧Df w (E.DB b) p=some (.slice a len cap)∧v=HB q.n off n a cap
  |some _=>True
  |none=>False
 | .C2 b j,v=>b<vw.length∧v= .pointer (some ⟨E.C5 b,j,none⟩)
 | .Di b p i sz j,v=>L7 v=true∧match vw[b]? with
  |some (.sl _ r rows)=>BA r rows p∧ ∃q ys bb o len cap,Cb r rows p=some ⟨q,ys⟩∧i<List.length ys∧Df w (E.DB b) p=some (.slice (some ⟨bb,o,none⟩) len cap)∧v= .pointer (some ⟨bb,o+i*sz+j,none⟩)
  |some _=>True
  |none=>False
 | .FU s r x j,v=> ∃bb o cs,v= .pointer (some ⟨bb,o+j,none⟩)∧(if s then E.S else E.T) bb∧cs.length=r.n∧An w bb o cs∧Rd w (if s then E.S else E.T) r cs x
 | .fn f Dr,v=>(∀b∈Dr,b<vw.length)∧v= .func (.func f) #[] (Dr.map fun b=>Value.pointer (some ⟨E.C5 b,0,none⟩)).toArray
 | .Sj f rows,v=> ∃ps:List Value,v= .func (.func f) #[] ps.toArray∧Ai (RA E w) rows ps
 | .VX,v=>v= .pointer none
 | .undef,_=>True
def N1 (E:Env) (w:World) (vw:List Bx) (l:List AV) (vs:List Value):Prop:=Ai (VR E w vw) l vs
def TR (E:Env) (w:World) (vw:List Bx):AV ⊕ List AV→Value→Prop
 | .inl x,v=>VR E w vw x v
 | .inr q,v=> ∃vs,v= .agg vs∧N1 E w vw q vs.toList
def XR (E:Env) (w:World) (vw:List Bx):XV→Value→Prop
 | .c x,v=>VR E w vw x v
 | .agg l,v=> ∃vs,v= .agg vs∧N1 E w vw l vs.toList
 | .Hi l,v=> ∃vs,v= .tuple vs∧Ai (TR E w vw) l vs.toList
def RI (E:Env) (w:World) (vw:List Bx) (k:Nat):Bx→List Nat→Prop
 | .mem cs,F=>F=[E.C5 k]∧ ∃arr ty fr,w.heap[E.C5 k]? =some (.cells arr ty fr)∧Vx fr arr.size∧N1 E w vw cs arr.toList
 | .sl d r rows,F=>1≤d∧Ow w E.S d (.sl r) [E.DB k] rows F
 | .dead,F=>F=[]
structure Sep (E:Env) (w:World) (F:mu):Prop where
 nodup:F.Nodup
 free: ∀c∈F,¬E.T c
 lt: ∀c∈F,c<w.heap.size
 st: ∀c,E.S c→E.T c
 NM: ∀c,E.T c→c<w.heap.size
def E6 (E:Env) (w:World) (vw bx:List Bx) (Fs:List mu):Prop:=
 Fs.length=bx.length∧ ∀k B F,bx[k]? =some B→Fs[k]? =some F→RI E w vw k B F
def A6 (E:Env) (w:World) (vw bx:List Bx) (G:mu):Prop:=
 ∃Fs,E6 E w vw bx Fs∧Sep E w (Fs.flatten++G)
structure Le (E E':Env):Prop where
 C5:E'.C5=E.C5
 DB:E'.DB=E.DB
 T: ∀c,E.T c→E'.T c
 S: ∀c,E.S c→E'.S c
 Z4: ∀c,E'.T c→E.T c∨E'.S c
 WM: ∀c,E'.S c→E.S c∨ ¬E.T c
theorem Le.refl (E:Env):Le E E:=⟨rfl,rfl,fun _ h=>h,fun _ h=>h,fun _ h=> .inl h,fun _ h=> .inl h⟩
theorem Le.trans {E E' Yd:Env} (h:Le E E') (k:Le E' Yd):Le E Yd:=
 ⟨k.C5.trans h.C5,k.DB.trans h.DB,fun c hc=>k.T c (h.T c hc),fun c hc=>k.S c (h.S c hc),
  fun c hc=>(k.Z4 c hc).elim (fun h' =>(h.Z4 c h').imp id (k.S c)) .inr,
  fun c hc=>(k.WM c hc).elim (h.WM c) (fun h' => .inr fun ht=>h' (h.T c ht))⟩
theorem Mw {w B}: ∀{r:Ty} {cs x j t y},Rd w B r cs x→AR r j x=some ⟨t,y⟩→ ∃v,cs[j]? =some v∧Rd w B t [v] y
 | .cons c r,cs,x,0,t,y,h,e=>by
  simp only [Rd] at h
  obtain ⟨v,l,rfl,h1,h2⟩:=h
  simp only [AR,Option.some.injEq,Sigma.mk.injEq] at e
  obtain ⟨rfl,e⟩:=e
  obtain rfl:=eq_of_heq e
  exact ⟨v,rfl,h1⟩
 | .cons c r,cs,x,j+1,t,y,h,e=>by
  simp only [Rd] at h
  obtain ⟨v,l,rfl,h1,h2⟩:=h
  simp only [AR] at e
  obtain ⟨u,hu,hr⟩:=Mw h2 e
  exact ⟨u,by simpa using hu,hr⟩
 | .int k,cs,x,0,t,y,h,e=>by
  simp only [AR,Option.some.injEq,Sigma.mk.injEq] at e
  obtain ⟨rfl,e⟩:=e
  obtain rfl:=eq_of_heq e
  simp only [Rd] at h;subst h
  exact ⟨_,rfl,by simp only [Rd]⟩
 | .bool,cs,x,0,t,y,h,e=>by
  simp only [AR,Option.some.injEq,Sigma.mk.injEq] at e
  obtain ⟨rfl,e⟩:=e
  obtain rfl:=eq_of_heq e
  simp only [Rd] at h;subst h
  exact ⟨_,rfl,by simp only [Rd]⟩
 | .str,cs,x,0,t,y,h,e=>by
  simp only [AR,Option.some.injEq,Sigma.mk.injEq] at e
  obtain ⟨rfl,e⟩:=e
  obtain rfl:=eq_of_heq e
  simp only [Rd] at h;subst h
  exact ⟨_,rfl,by simp only [Rd]⟩
 | .sl r,cs,x,0,t,y,h,e=>by
  simp only [AR,Option.some.injEq,Sigma.mk.injEq] at e
  obtain ⟨rfl,e⟩:=e
  obtain rfl:=eq_of_heq e
  have h':=h
  simp only [Rd] at h
  obtain ⟨a,cap,rfl,_⟩:=h
  exact ⟨_,rfl,h'⟩
 | .unit,_,_,_,_,_,_,e=>by simp [AR] at e
 | .int _,_,_,_+1,_,_,_,e=>by simp [AR] at e
 | .bool,_,_,_+1,_,_,_,e=>by simp [AR] at e
 | .str,_,_,_+1,_,_,_,e=>by simp [AR] at e
 | .sl _,_,_,_+1,_,_,_,e=>by simp [AR] at e
theorem G2 {r:Ty} {rows:List r.D} {i:Nat} (h:i<rows.length):rows[i]? =some (rowAt r rows i):=by
 simp [rowAt,h]
theorem QS {w:World} {B:Nat→Prop}: ∀{p:List Pd} {r:Ty} {h:Value} {rows:List r.D} {q:Ty} {ys:List q.D},
  Rd w B (.sl r) [h] rows→BA r rows p→Cb r rows p=some ⟨q,ys⟩→
  ∃h',(∀w':World,(∀b,B b→w'.heap[b]? =w.heap[b]?)→Df w' h p=some h')∧Rd w B (.sl q) [h'] ys
 |[],r,h,rows,q,ys,hr,_,hg=>by
  simp only [Cb,Option.some.injEq,Sigma.mk.injEq] at hg
  obtain ⟨rfl,e⟩:=hg
  obtain rfl:=eq_of_heq e
  exact ⟨h,fun w' _=>by cases h<;>rfl,hr⟩
 |s::p,r,h,rows,q,ys,hr,hp,hg=>by
  simp only [BA] at hp
  obtain ⟨hi,GN,hp⟩:=hp
  simp only [Cb] at hg
  simp only [Rd] at hr
  obtain ⟨a,cap,hh,_,hr⟩:=hr
  obtain rfl:=(List.cons.inj hh).1
  rcases hr with hr|⟨b,o,rfl,hb,hr⟩
  ·omega
  obtain ⟨cs,hl,hc,hrow⟩:=hr s.i _ (G2 hi)
  split at hg
  ·rename_i q' x' MQ
   rw [MQ] at hp
   obtain ⟨v,hv,hrv⟩:=Mw hrow MQ
   obtain ⟨h',iJ,Km⟩:=QS hrv hp hg
   refine ⟨h',fun w' gZ=> ?_,Km⟩
   simp only [Df]
   have KU:w'.cell? ⟨b,o+s.i*s.sz+s.j,none⟩=some v:=by
    rw [GN]
    exact (World.cell?_of_block (a:=⟨b,_,none⟩) (gZ b hb)).trans (hc _ _ hv)
   rw [KU]
   exact iJ w' gZ
  ·cases hg
theorem Aw {w:World} {h:Value}:Df w h []=some h:=by cases h<;>rfl
structure Hj (E:Env) (w:World) (vw:List Bx) (E':Env) (w':World) (vw':List Bx):Prop where
 len:vw.length≤vw'.length
 C5: ∀b,b<vw.length→E'.C5 b=E.C5 b
 T: ∀b,E.T b→E'.T b
 S: ∀b,E.S b→E'.S b
 st: ∀b,E.S b→E.T b
 heap: ∀b,E.T b→w'.heap[b]? =w.heap[b]?
 box: ∀b d r rows,b<vw.length→vw'[b]? =some (.sl d r rows)→ ∃d0 Gw,vw[b]? =some (.sl d0 r Gw)∧
  ∀p,BA r Gw p→ ∀q ys,Cb r Gw p=some ⟨q,ys⟩→BA r rows p∧(∃Qp,Cb r rows p=some ⟨q,Qp⟩∧List.length Qp=List.length ys)∧
   ∀h,Df w (E.DB b) p=some h→Df w' (E'.DB b) p=some h
theorem GL {α:Type} {l l':List α} {b:Nat} {x:α} (h:l.length≤l'.length) (e:l[b]? =some x): ∃y,l'[b]? =some y:=
 ⟨l'[b]'(Nat.lt_of_lt_of_le (List.getElem?_eq_some_iff.1 e).1 h),List.getElem?_eq_getElem _⟩
theorem CS {E E':Env} {w w':World} {vw vw':List Bx} (k:Hj E w vw E' w' vw'): ∀{x:AV} {v:Value},VR E w vw x v→VR E' w' vw' x v:=by
 intro x v h
 cases x with
 |v t x=>exact ⟨h.1,B6 (fun _ h=>h) (fun _ h=>h.elim) h.2⟩
 |sl s r x=>
  simp only [VR] at h⊢
  cases s with
  |false=>exact B6 k.T k.heap (by simpa using h)
  |true=>exact B6 k.S (fun b hb=>k.heap b (k.st b hb)) (by simpa using h)
 |nil=>exact h
 |ref b p=>
  simp only [VR] at h⊢
  obtain ⟨h0,h⟩:=h
  refine ⟨h0,?_⟩
  cases e:vw[b]? with
  |none=>rw [e] at h;exact h.elim
  |some B=>
   rw [e] at h
   have Dw:=(List.getElem?_eq_some_iff.1 e).1
   obtain ⟨B',e'⟩:=GL k.len e
   rw [e']
   cases B' with
   |mem cs=>trivial
   |dead=>trivial
   |sl d r rows=>
    obtain ⟨d0,Gw,e0,hk⟩:=k.box b d r rows Dw e'
    rw [e] at e0;cases e0
    simp only at h
    obtain ⟨hp,⟨⟨q,ys⟩,hg⟩,hh⟩:=h
    obtain ⟨k1,⟨Qp,k2,_⟩,k3⟩:=hk p hp q ys hg
    exact ⟨k1,⟨_,k2⟩,k3 _ hh⟩
 |NB b p off n=>
  simp only [VR] at h⊢
  obtain ⟨h0,h⟩:=h
  refine ⟨h0,?_⟩
  cases e:vw[b]? with
  |none=>rw [e] at h;exact h.elim
  |some B=>
   rw [e] at h
   have Dw:=(List.getElem?_eq_some_iff.1 e).1
   obtain ⟨B',e'⟩:=GL k.len e
   rw [e']
   cases B' with
   |mem cs=>trivial
   |dead=>trivial
   |sl d r rows=>
    obtain ⟨d0,Gw,e0,hk⟩:=k.box b d r rows Dw e'
    rw [e] at e0;cases e0
    simp only at h
    obtain ⟨hp,q,ys,a,len,cap,hg,hl,hh,hv⟩:=h
    obtain ⟨k1,⟨Qp,k2,k4⟩,k3⟩:=hk p hp q ys hg
    exact ⟨k1,q,Qp,a,len,cap,k2,by omega,k3 _ hh,hv⟩
 |C2 b j=>exact ⟨Nat.lt_of_lt_of_le h.1 k.len,by rw [h.2,k.C5 b h.1]⟩
 |Di b p i sz j=>
  simp only [VR] at h⊢
  obtain ⟨h0,h⟩:=h
  refine ⟨h0,?_⟩
  cases e:vw[b]? with
  |none=>rw [e] at h;exact h.elim
  |some B=>
   rw [e] at h
   have Dw:=(List.getElem?_eq_some_iff.1 e).1
   obtain ⟨B',e'⟩:=GL k.len e
   rw [e']
   cases B' with
   |mem cs=>trivial
   |dead=>trivial
   |sl d r rows=>
    obtain ⟨d0,Gw,e0,hk⟩:=k.box b d r rows Dw e'
    rw [e] at e0;cases e0
    simp only at h
    obtain ⟨hp,q,ys,bb,o,len,cap,hg,hl,hh,hv⟩:=h
    obtain ⟨k1,⟨Qp,k2,k4⟩,k3⟩:=hk p hp q ys hg
    exact ⟨k1,q,Qp,bb,o,len,cap,k2,by omega,k3 _ hh,hv⟩
 |FU s r x j=>
  simp only [VR] at h⊢
  obtain ⟨bb,o,cs,hv,hb,hl,hc,hr⟩:=h
  cases s with
  |false=>exact ⟨bb,o,cs,hv,k.T bb (by simpa using hb),hl,hc.HW (k.heap bb (by simpa using hb)),B6 k.T k.heap (by simpa using hr)⟩
  |true=>exact ⟨bb,o,cs,hv,k.S bb (by simpa using hb),hl,hc.HW (k.heap bb (k.st bb (by simpa using hb))),B6 k.S (fun b hb=>k.heap b (k.st b hb)) (by simpa using hr)⟩
 |fn f Dr=>
  refine ⟨fun b hb=>Nat.lt_of_lt_of_le (h.1 b hb) k.len,?_⟩
  rw [h.2]
  congr 2
  exact List.map_congr_left fun b hb=>by rw [k.C5 b (h.1 b hb)]
 |Sj f rows=>
  obtain ⟨ps,hv,h⟩:=h
  exact ⟨ps,hv,h.imp fun q p ⟨bb,o,cs,h1,h2,h3,h4,h5⟩=>⟨bb,o,cs,h1,k.T bb h2,h3,h4.HW (k.heap bb h2),B6 k.T k.heap h5⟩⟩
 |VX=>exact h
 |undef=>trivial
theorem F5 {E E':Env} {w w':World} {vw vw':List Bx} (k:Hj E w vw E' w' vw'): ∀{x:XV} {v:Value},XR E w vw x v→XR E' w' vw' x v
 | .c _,_,h=>CS k h
 | .agg _,_,⟨vs,hv,h⟩=>⟨vs,hv,h.imp fun _ _ h=>CS k h⟩
 | .Hi l,_,⟨vs,hv,h⟩=>⟨vs,hv,h.imp fun
  | .inl _,_,h=>CS k h
  | .inr _,_,⟨ws,hw,h⟩=>⟨ws,hw,h.imp fun _ _ h=>CS k h⟩⟩
theorem Hj.refl {E:Env} {w:World} {vw:List Bx} (st: ∀b,E.S b→E.T b):Hj E w vw E w vw:=
 ⟨Nat.le_refl _,fun _ _=>rfl,fun _ h=>h,fun _ h=>h,st,fun _ _=>rfl,fun b d r rows _ h=>⟨d,rows,h,fun p hp q ys hg=>⟨hp,⟨ys,hg,rfl⟩,fun _ h=>h⟩⟩⟩
theorem Hj.trans {E E' Yd:Env} {w w' dg:World} {vw vw' fp:List Bx} (k:Hj E w vw E' w' vw') (k':Hj E' w' vw' Yd dg fp):Hj E w vw Yd dg fp where
 len:=Nat.le_trans k.len k'.len
 C5:=fun b hb=>(k'.C5 b (Nat.lt_of_lt_of_le hb k.len)).trans (k.C5 b hb)
 T:=fun b h=>k'.T b (k.T b h)
 S:=fun b h=>k'.S b (k.S b h)
 st:=k.st
 heap:=fun b h=>(k'.heap b (k.T b h)).trans (k.heap b h)
 box:=fun b d r rows hb h=>by
  obtain ⟨d1,aY,h1,k1⟩:=k'.box b d r rows (Nat.lt_of_lt_of_le hb k.len) h
  obtain ⟨d0,Gw,h0,k0⟩:=k.box b d1 r aY hb h1
  refine ⟨d0,Gw,h0,fun p hp q ys hg=> ?_⟩
  obtain ⟨a1,⟨ys1,a2,a3⟩,a4⟩:=k0 p hp q ys hg
  obtain ⟨b1,⟨ys2,b2,b3⟩,b4⟩:=k1 p a1 q ys1 a2
  exact ⟨b1,⟨ys2,b2,b3.trans a3⟩,fun h hh=>b4 h (a4 h hh)⟩
theorem TH {w w':World} {S:Nat→Prop} {d:Nat} {r:Ty} {h:Value} {rows:List r.D} {F:mu} (ho:Ow w S d (.sl r) [h] rows F)
  (hS: ∀b,S b→w'.heap[b]? =w.heap[b]?) (hF: ∀b∈F,w'.heap[b]? =w.heap[b]?) {p:List Pd} (hp:BA r rows p) {q:Ty} {ys:List q.D} (hg:Cb r rows p=some ⟨q,ys⟩)
  {h':Value} (hh:Df w h p=some h'):Df w' h p=some h':=by
 obtain ⟨h1,k,_⟩:=QS (LL ho) hp hg
 have e1:=k w (fun _ _=>rfl)
 rw [hh] at e1
 cases e1
 exact k w' fun b hb=>hb.elim (hS b) (hF b)
end Go.Fw
end
section
namespace Go.Fw
theorem Ai.set {α β:Type} {R:α→β→Prop}: ∀{l:List α} {m:List β} {i:Nat} {a:α} {b:β},Ai R l m→R a b→Ai R (l.set i a) (m.set i b)
 |[],[],_,_,_,_,_=>trivial
 |_::_,_::_,0,_,_,h,r=>⟨r,h.2⟩
 |_::_,_::_,i+1,_,_,h,r=>⟨h.1,Ai.set h.2 r⟩
theorem Ai.append {α β:Type} {R:α→β→Prop}: ∀{l:List α} {m:List β} {l':List α} {m':List β},Ai R l m→Ai R l' m'→Ai R (l++l') (m++m')
 |[],[],_,_,_,h=>h
 |_::_,_::_,_,_,h,k=>⟨h.1,Ai.append h.2 k⟩
theorem Ai.EW {α β γ:Type} {R:α→β→Prop} {S:γ→β→Prop} (f:α→γ) (h: ∀a b,R a b→S (f a) b): ∀{l:List α} {m:List β},Ai R l m→Ai S (l.map f) m
 |[],[],_=>trivial
 |_::_,_::_,k=>⟨h _ _ k.1,Ai.EW f h k.2⟩
theorem Ai.drop {α β:Type} {R:α→β→Prop}: ∀{l:List α} {m:List β} (n:Nat),Ai R l m→Ai R (l.drop n) (m.drop n)
 |_,_,0,h=>h
 |[],[],_+1,_=>trivial
 |_::_,_::_,n+1,h=>Ai.drop n h.2
theorem Ai.take {α β:Type} {R:α→β→Prop}: ∀{l:List α} {m:List β} (n:Nat),Ai R l m→Ai R (l.take n) (m.take n)
 |[],[],0,_=>trivial
 |_::_,_::_,0,_=>trivial
 |[],[],_+1,_=>trivial
 |_::_,_::_,n+1,h=>⟨h.1,Ai.take n h.2⟩
structure NA (E0:Env) (w0:World) (E:Env) (w:World):Prop where
 T: ∀c,E0.T c→E.T c
 S: ∀c,E0.S c→E.S c
 Z4: ∀c,E.T c→E0.T c∨E.S c
 WM: ∀c,E.S c→E0.S c∨ ¬E0.T c
 heap: ∀c,E0.T c→w.heap[c]? =w0.heap[c]?
 os:w.os=w0.os
 tape:w.tape=w0.tape
 output:w.output=w0.output
 size:w0.heap.size≤w.heap.size
theorem NA.refl (E:Env) (w:World):NA E w E w:=⟨fun _ h=>h,fun _ h=>h,fun _ h=> .inl h,fun _ h=> .inl h,fun _ _=>rfl,rfl,rfl,rfl,Nat.le_refl _⟩
theorem NA.trans {E E' Yd:Env} {w w' dg:World} (h:NA E w E' w') (k:NA E' w' Yd dg):NA E w Yd dg:=
 ⟨fun c hc=>k.T c (h.T c hc),fun c hc=>k.S c (h.S c hc),fun c hc=>(k.Z4 c hc).elim (fun h' =>(h.Z4 c h').imp id (k.S c)) .inr,
  fun c hc=>(k.WM c hc).elim (h.WM c) (fun h' => .inr fun ht=>h' (h.T c ht)),fun c hc=>(k.heap c (h.T c hc)).trans (h.heap c hc),
  k.os.trans h.os,k.tape.trans h.tape,k.output.trans h.output,Nat.le_trans h.size k.size⟩
theorem Le.base {E E':Env} (h:Le E E') (w:World):NA E w E' w:=⟨h.T,h.S,h.Z4,h.WM,fun _ _=>rfl,rfl,rfl,rfl,Nat.le_refl _⟩
def U3 (E:Env) (w:World) (k:Nat):Bx→Nat→Prop
 | .mem _,c=>c=E.C5 k
 | .sl _ r rows,c=>RB w (.sl r) [E.DB k] rows c
 | .dead,_=>False
def I4:Bx→Bx→Prop
 | .mem _,.mem _=>True
 | .sl _ r x,.sl _ q y=>(⟨r,x⟩:(r:Ty)×List r.D)=⟨q,y⟩
 |_,_=>False
structure G8 (t:mu) (E0:Env) (gb:List Bx) (w0:World) (E:Env) (bx:List Bx) (w:World):Prop where
 base:NA E0 w0 E w
 len:gb.length≤bx.length
 ids: ∀b,b<gb.length→E.C5 b=E0.C5 b∧E.DB b=E0.DB b
 dead: ∀b:Nat,gb[b]? =some Bx.dead→bx[b]? =some Bx.dead
 frame: ∀(n:Nat) B B',n∉t→gb[n]? =some B→bx[n]? =some B'→B'≠ .dead→I4 B B'∧ ∀c,U3 E0 w0 n B c→w.heap[c]? =w0.heap[c]?
theorem G8.any {E E':Env} {bx Gq:List Bx} {w w':World} (h:G8 [] E bx w E' Gq w') {t:mu}:G8 t E bx w E' Gq w':=
 ⟨h.base,h.len,h.ids,h.dead,fun n B B' _=>h.frame n B B' (by simp)⟩
theorem I4.refl {B:Bx} (h:B≠ .dead):I4 B B:=by cases B<;>simp_all [I4]
theorem G8.refl (t:mu) (E:Env) (bx:List Bx) (w:World):G8 t E bx w E bx w:=⟨NA.refl E w,Nat.le_refl _,fun _ _=>⟨rfl,rfl⟩,fun _ h=>h,fun n B B' _ h h' hd=>by
 rw [h] at h'
 cases h'
 exact ⟨I4.refl hd,fun _ _=>rfl⟩⟩
theorem Mz {E:Env} {w:World} {vw:List Bx} {k:Nat} {B:Bx} {F:mu} {c:Nat} (h:RI E w vw k B F) (hc:U3 E w k B c):E.S c∨c∈F:=by
 cases B with
 |mem cs=>obtain ⟨rfl,_⟩:=h;right;simp [U3] at hc;simp [hc]
 |sl d r rows=>exact TS (LL h.2) hc
 |dead=>exact hc.elim
structure Rel (E:Env) (σ:St) (a:Act) (w:World):Prop where
 FL:a.defers=[]
 tm:Ai (XR E w σ.bx) σ.tm a.tmps.toList
 bx:A6 E w σ.bx σ.bx []
theorem Rel.put {E:Env} {σ:St} {a:Act} {w:World} (h:Rel E σ a w) (dst:Option Tmp) {x:XV} {v:Value} (hx:XR E w σ.bx x v):Rel E (σ.put dst x) (a.put dst v) w:=by
 cases dst with
 |none=>exact h
 |some d=>exact ⟨h.FL,by simpa [St.put,Act.put] using Ai.set h.tm hx,h.bx⟩
theorem Ai.cE {E:Env} {w:World} {vw:List Bx} {l:List XV} {m:Array Value} (h:Ai (XR E w vw) l m.toList) (t:Nat):XR E w vw (l.getD t (.c .undef)) (m.getD t undef):=by
 by_cases ht:t<l.length
 ·have e:l[t]? =some l[t]:=List.getElem?_eq_getElem ht
  obtain ⟨b,hb,hr⟩:=h.get e
  have:m[t]? =some b:=by simpa using hb
  simp only [List.getD_eq_getElem?_getD,e,Option.getD_some,Array.getD_eq_getD_getElem?,this]
  exact hr
 ·have e:l[t]? =none:=by simp;omega
  simp only [List.getD_eq_getElem?_getD,e,Option.getD_none]
  trivial
theorem Sr {E:Env} {w:World} {vw:List Bx} (v:Value):VR E w vw (RN v) v:=by
 unfold RN
 split<;>first
  |trivial
  |exact ⟨rfl,by simp [Rd]⟩
  |rfl
theorem Pr {E:Env} {w:World} {vw:List Bx}: ∀(l:List Value),N1 E w vw (l.map RN) l
 |[]=>trivial
 |a::l=>⟨Sr a,Pr l⟩
theorem VN {E:Env} {w:World} {vw:List Bx} (v:Value):XR E w vw (ofValue v) v:=by
 unfold ofValue
 split
 ·rename_i cs
  exact ⟨cs,rfl,Pr cs.toList⟩
 ·exact Sr v
theorem Rel.ev {E:Env} {σ:St} {a:Act} {w:World} (h:Rel E σ a w) (x:Operand):XR E w σ.bx (σ.ev x) (a.eval x):=by
 cases x with
 |tmp t=>exact Ai.cE h.tm t
 |const v=>exact VN v
 |global g=>trivial
 |func f=>exact ⟨by simp,rfl⟩
theorem Ic {b:Nat}: ∀{Fs:List mu} {F:mu},Fs[b]? =some F→Fs.flatten.Perm (F++(Fs.set b []).flatten):=by
 induction b with
 |zero=>
  intro Fs F h
  cases Fs with
  |nil=>simp at h
  |cons A l=>simp at h;subst h;simp
 |succ b ih=>
  intro Fs F h
  cases Fs with
  |nil=>simp at h
  |cons A l=>
   have:=ih (Fs:=l) (F:=F) (by simpa using h)
   simp only [List.set_cons_succ,List.flatten_cons]
   refine (List.Perm.append_left A this).trans ?_
   rw [←List.append_assoc,←List.append_assoc]
   exact List.Perm.append_right _ List.perm_append_comm
theorem Sep.perm {E:Env} {w:World} {F F':mu} (h:Sep E w F) (p:F.Perm F'):Sep E w F':=
 ⟨p.nodup_iff.1 h.nodup,fun c hc=>h.free c (p.mem_iff.2 hc),fun c hc=>h.lt c (p.mem_iff.2 hc),h.st,h.NM⟩
theorem Sep.sub {E:Env} {w:World} {F F':mu} (h:Sep E w (F++F')):Sep E w F:=
 ⟨(List.nodup_append.1 h.nodup).1,fun c hc=>h.free c (by simp [hc]),fun c hc=>h.lt c (by simp [hc]),h.st,h.NM⟩
theorem A6.perm {E:Env} {w:World} {vw bx:List Bx} {G G':mu} (h:A6 E w vw bx G) (p:G.Perm G'):A6 E w vw bx G':=
 let ⟨Fs,h1,h2⟩:=h
 ⟨Fs,h1,h2.perm (List.Perm.append_left _ p)⟩
theorem A6.drop {E:Env} {w:World} {vw bx:List Bx} {G G':mu} (h:A6 E w vw bx (G++G')):A6 E w vw bx G:=
 let ⟨Fs,h1,h2⟩:=h
 ⟨Fs,h1,by rw [←List.append_assoc] at h2;exact h2.sub⟩
theorem A6.st {E:Env} {w:World} {vw bx:List Bx} {G:mu} (h:A6 E w vw bx G): ∀c,E.S c→E.T c:=let ⟨_,_,h⟩:=h;h.st
theorem A6.NM {E:Env} {w:World} {vw bx:List Bx} {G:mu} (h:A6 E w vw bx G): ∀c,E.T c→c<w.heap.size:=let ⟨_,_,h⟩:=h;h.NM
theorem A6.YG {E:Env} {w:World} {vw bx:List Bx} {G:mu} (h:A6 E w vw bx G): ∀c∈G,¬E.T c:=let ⟨_,_,h⟩:=h;fun c hc=>h.free c (by simp [hc])
theorem A6.take {E:Env} {w:World} {vw bx:List Bx} {G:mu} (h:A6 E w vw bx G) {b:Nat} {B:Bx} (hb:bx[b]? =some B):
  ∃F,RI E w vw b B F∧A6 E w vw (bx.set b .dead) (F++G):=by
 obtain ⟨Fs,⟨hl,h1⟩,h2⟩:=h
 have Dw:=(List.getElem?_eq_some_iff.1 hb).1
 have hF:Fs[b]? =some (Fs[b]'(by omega)):=List.getElem?_eq_getElem _
 refine ⟨_,h1 b B _ hb hF,Fs.set b [],⟨by simpa using hl,fun k C F hk VE=> ?_⟩,h2.perm ?_⟩
 ·by_cases e:k=b
  ·subst e
   rw [List.getElem?_set_self (by omega)] at hk VE
   cases hk;cases VE
   rfl
  ·rw [List.getElem?_set_ne (by omega)] at hk VE
   exact h1 k C F hk VE
 ·have:=List.Perm.append_right G (Ic hF)
  refine this.trans ?_
  rw [List.append_assoc,←List.append_assoc (List.flatten _)]
  refine (List.perm_append_comm (l₁:=Fs[b]'(by omega))).trans ?_
  rw [List.append_assoc,List.append_assoc]
  exact List.Perm.append_left _ List.perm_append_comm
theorem A6.put {E:Env} {w:World} {vw bx:List Bx} {F G:mu} (h:A6 E w vw bx (F++G)) {b:Nat} {B:Bx} (hb:bx[b]? =some .dead) (hB:RI E w vw b B F):
  A6 E w vw (bx.set b B) G:=by
 obtain ⟨Fs,⟨hl,h1⟩,h2⟩:=h
 have Dw:=(List.getElem?_eq_some_iff.1 hb).1
 have hF:Fs[b]? =some (Fs[b]'(by omega)):=List.getElem?_eq_getElem _
 have e0:Fs[b]'(by omega)=[]:=h1 b _ _ hb hF
 refine ⟨Fs.set b F,⟨by simpa using hl,fun k C F' hk VE=> ?_⟩,h2.perm ?_⟩
 ·by_cases e:k=b
  ·subst e
   rw [List.getElem?_set_self (by omega)] at hk VE
   cases hk;cases VE
   exact hB
  ·rw [List.getElem?_set_ne (by omega)] at hk VE
   exact h1 k C F' hk VE
 ·have p:(Fs.set b F).flatten.Perm (F++Fs.flatten):=by
   have p1:=Ic (Fs:=Fs.set b F) (b:=b) (F:=F) (List.getElem?_set_self (by omega))
   rw [List.set_set] at p1
   have p2:=Ic hF
   rw [e0,List.nil_append] at p2
   exact p1.trans (List.Perm.append_left _ p2.symm)
  refine List.Perm.symm ?_
  refine (List.Perm.append_right G p).trans ?_
  rw [←List.append_assoc]
  exact List.Perm.append_right _ List.perm_append_comm
theorem A6.push {E:Env} {w:World} {vw bx:List Bx} {F G:mu} (h:A6 E w vw bx (F++G)) {B:Bx} (hB:RI E w vw bx.length B F):
  A6 E w vw (bx++[B]) G:=by
 obtain ⟨Fs,⟨hl,h1⟩,h2⟩:=h
 refine ⟨Fs++[F],⟨by simp [hl],fun k C F' hk VE=> ?_⟩,h2.perm (by simp)⟩
 by_cases e:k<bx.length
 ·rw [List.getElem?_append_left (by omega)] at hk VE
  exact h1 k C F' hk VE
 ·have kL:=(List.getElem?_eq_some_iff.1 hk).1
  simp at kL
  obtain rfl:k=bx.length:=by omega
  rw [List.getElem?_append_right (by omega)] at hk VE
  simp [hl] at hk VE
  subst hk VE
  exact hB
theorem A6.turn {E E':Env} {w w':World} {vw vw' bx:List Bx} {G:mu} (h:A6 E w vw bx G) (k: ∀x v,VR E w vw x v→VR E' w' vw' x v)
  (hS: ∀c,E.S c→E'.S c) (Ts: ∀b,b<bx.length→E'.C5 b=E.C5 b) (MU: ∀b,b<bx.length→E'.DB b=E.DB b)
  (hw: ∀c,(E.S c∨(¬E.T c∧c∉G))→c<w.heap.size→w'.heap[c]? =w.heap[c]?)
  (X1: ∀F,Sep E w (F++G)→Sep E' w' (F++G)):A6 E' w' vw' bx G:=by
 obtain ⟨Fs,⟨hl,h1⟩,h2⟩:=h
 refine ⟨Fs,⟨hl,fun n B F hn hF=> ?_⟩,X1 _ h2⟩
 have Dw:=(List.getElem?_eq_some_iff.1 hn).1
 have h3:=h1 n B F hn hF
 have VA: ∀c∈F,c∈Fs.flatten:=fun c hc=>List.mem_flatten.2 ⟨F,List.mem_of_getElem? hF,hc⟩
 have ak: ∀c∈F,w'.heap[c]? =w.heap[c]?:=fun c hc=>hw c (.inr ⟨h2.free c (by simp [VA c hc]),fun hg=>by
  have:=(List.nodup_append.1 h2.nodup).2.2 c (VA c hc) c hg
  exact this rfl⟩) (h2.lt c (by simp [VA c hc]))
 have Ru: ∀c,E.S c→w'.heap[c]? =w.heap[c]?:=fun c hc=>hw c (.inl hc) (h2.NM c (h2.st c hc))
 cases B with
 |mem cs=>
  obtain ⟨rfl,arr,ty,fr,ha,hu,hv⟩:=h3
  refine ⟨by rw [Ts n Dw],arr,ty,fr,?_,hu,hv.imp k⟩
  rw [Ts n Dw,ak _ (by simp),ha]
 |sl d r rows=>
  obtain ⟨hd,ho⟩:=h3
  refine ⟨hd,?_⟩
  rw [MU n Dw]
  exact Bd hS Ru ak ho
 |dead=>exact h3
end Go.Fw
end
section
namespace Go.Fw
theorem C3 {β:Ty→Type} {a b:Ty} {x:β a} {y:β b} (h:Gm a b x=some y): ∃e:a=b,e▸x=y:=by
 unfold Gm at h
 split at h
 ·rename_i e
  exact ⟨e,by simpa using h⟩
 ·cases h
def Bw (bk vw:List Bx):Prop:= ∀(b:Nat) (B:Bx),bk[b]? =some B→B= .dead∨vw[b]? =some B
theorem Bw.refl (bx:List Bx):Bw bx bx:=fun _ _ h=> .inr h
theorem Addr.add_eq (b o n:Nat):(⟨b,o,none⟩:Addr).add n=⟨b,o+n,none⟩:=by unfold Addr.add;split<;>simp_all
theorem VM {w:World} {B:Nat→Prop} {r:Ty} {a:Option Addr} {len cap:Nat} {ys:List r.D} (h:Rd w B (.sl r) [.slice a len cap] ys) {off n:Nat} (hn:off+n≤ys.length):
  Rd w B (.sl r) [HB r.n off n a cap] ((ys.drop off).take n):=by
 simp only [Rd] at h⊢
 obtain ⟨a',cap',e,hc,h⟩:=h
 simp only [List.cons.injEq,Value.slice.injEq,and_true] at e
 obtain ⟨rfl,rfl,rfl⟩:=e
 have hl:((ys.drop off).take n).length=n:=by simp;omega
 refine ⟨_,_,by unfold HB;rw [hl],by rw [hl];omega,?_⟩
 rw [hl]
 by_cases h0:n=0
 ·exact .inl h0
 ·rcases h with h|⟨b,o,rfl,hb,h⟩
  ·omega
  ·refine .inr ⟨b,o+off*r.n,?_,hb,fun i y hy=> ?_⟩
   ·rw [if_neg (by omega)]
    simp [Addr.add_eq]
   ·have hi:=(List.getElem?_eq_some_iff.1 hy).1
    rw [hl] at hi
    rw [List.getElem?_take_of_lt hi,List.getElem?_drop] at hy
    obtain ⟨cs,e1,e2,e3⟩:=h (off+i) y hy
    refine ⟨cs,e1,?_,e3⟩
    rw [Nat.add_mul,←Nat.add_assoc] at e2
    exact e2
def Qj (E:Env) (Fs:List mu) (c:Nat):Prop:=E.T c∨c∈Fs.flatten
section
variable {E:Env} {w:World} {vw bk:List Bx} {Fs:List mu}
theorem E6.get (h:E6 E w vw bk Fs) {b:Nat} {B:Bx} (e:bk[b]? =some B): ∃F,RI E w vw b B F∧ ∀c∈F,c∈Fs.flatten:=by
 have Dw:=(List.getElem?_eq_some_iff.1 e).1
 have hF:Fs[b]? =some (Fs[b]'(by rw [h.1];exact Dw)):=List.getElem?_eq_getElem _
 exact ⟨_,h.2 b B _ e hF,fun c hc=>List.mem_flatten.2 ⟨_,List.mem_of_getElem? hF,hc⟩⟩
theorem Ma (hs:Bw bk vw) (h:E6 E w vw bk Fs) (st: ∀c,E.S c→E.T c) {b d:Nat} {r:Ty} {rows:List r.D} (e:bk[b]? =some (.sl d r rows))
  {p:List Pd} (hp:BA r rows p) {q:Ty} {ys:List q.D} (hg:Cb r rows p=some ⟨q,ys⟩) {v:Value} (hh:Df w (E.DB b) p=some v):
  Rd w (Qj E Fs) (.sl q) [v] ys:=by
 obtain ⟨F,⟨_,ho⟩,hF⟩:=h.get e
 obtain ⟨h',k,hr⟩:=QS (LL ho) hp hg
 have:=k w (fun _ _=>rfl)
 rw [hh] at this
 cases this
 exact B6 (fun c hc=>hc.elim (fun hc=> .inl (st c hc)) (fun hc=> .inr (hF c hc))) (fun _ _=>rfl) hr
theorem KM (hs:Bw bk vw) {b d:Nat} {r:Ty} {rows:List r.D} (e:bk[b]? =some (.sl d r rows)):vw[b]? =some (.sl d r rows):=by
 rcases hs b _ e with h|h
 ·cases h
 ·exact h
theorem K4 (hs:Bw bk vw) (h:E6 E w vw bk Fs) (st: ∀c,E.S c→E.T c) {x:AV} {v:Value} (hv:VR E w vw x v) {q:Ty} {ys:List q.D} (e:E4 bk x=some ⟨q,ys⟩):
  Rd w (Qj E Fs) (.sl q) [v] ys:=by
 cases x with
 |sl s r x=>
  simp only [E4,Option.some.injEq,Sigma.mk.injEq] at e
  obtain ⟨rfl,e⟩:=e
  obtain rfl:=eq_of_heq e
  simp only [VR] at hv
  refine B6 (fun c hc=> ?_) (fun _ _=>rfl) hv
  cases s
  ·exact .inl (by simpa using hc)
  ·exact .inl (st c (by simpa using hc))
 |ref b p=>
  simp only [E4] at e
  split at e
  ·rename_i d r rows hb
   simp only [VR,KM hs hb] at hv
   replace hv:=hv.2
   exact Ma hs h st hb hv.1 e hv.2.2
  ·cases e
 |NB b p off n=>
  simp only [E4] at e
  split at e
  ·rename_i d r rows hb
   simp only [VR,KM hs hb] at hv
   obtain ⟨_,hp,q',Qp,a,len,cap,hg,hl,hh,rfl⟩:=hv
   rw [hg] at e
   simp only [Option.map_some,Option.some.injEq,Sigma.mk.injEq] at e
   obtain ⟨rfl,e⟩:=e
   obtain rfl:=eq_of_heq e
   exact VM (Ma hs h st hb hp hg hh) hl
  ·cases e
 |_=>simp [E4] at e
theorem Il (hs:Bw bk vw) (h:E6 E w vw bk Fs) (st: ∀c,E.S c→E.T c) {t:Ty} {x:AV} {v:Value} (hv:VR E w vw x v) {y:t.D} (e:Et bk t x=some y):
  Rd w (Qj E Fs) t [v] y:=by
 have sl: ∀(r:Ty) (x:AV) (v:Value) (y:List r.D),VR E w vw x v→((E4 bk x).bind fun q=>Gm (β:=fun r=>List r.D) q.1 r q.2)=some y→Rd w (Qj E Fs) (.sl r) [v] y:=by
  intro r x v y hv e
  rw [Option.bind_eq_some_iff] at e
  obtain ⟨⟨q,ys⟩,e1,e2⟩:=e
  obtain ⟨e3,e4⟩:=C3 e2
  dsimp only at e3
  subst e3
  subst e4
  exact K4 hs h st hv e1
 cases x with
 |v u z=>
  simp only [Et] at e
  obtain ⟨e1,e2⟩:=C3 e
  subst e1;subst e2
  exact B6 (fun _ hc=>hc.elim) (fun _ hc=>hc.elim) hv.2
 |nil=>
  cases t with
  |sl r=>
   simp only [Et,Option.some.injEq] at e
   subst e
   simp only [VR] at hv
   subst hv
   simp only [Rd]
   exact ⟨none,0,rfl,by simp,.inl rfl⟩
  |_=>simp [Et] at e
 |_=>
  cases t with
  |sl r=>exact sl r _ _ y hv (by simpa only [Et] using e)
  |_=>simp [Et] at e
theorem Nx (hs:Bw bk vw) (h:E6 E w vw bk Fs) (st: ∀c,E.S c→E.T c): ∀{r:Ty} {l:List AV} {vs:List Value} {x:r.D},N1 E w vw l vs→C7 bk r l=some x→
  Rd w (Qj E Fs) r vs x
 | .unit,[],[],x,_,_=>by simp only [Rd]
 | .cons c r,a::l,v::vs,x,hv,e=>by
  simp only [C7,Option.bind_eq_some_iff,Option.map_eq_some_iff] at e
  obtain ⟨y,e1,z,e2,rfl⟩:=e
  simp only [Rd]
  exact ⟨v,vs,rfl,Il hs h st hv.1 e1,Nx hs h st hv.2 e2⟩
 | .unit,_::_,_,_,_,e=>by simp [C7] at e
 | .unit,[],_::_,_,hv,_=>hv.elim
 | .cons _ _,[],_,_,_,e=>by simp [C7] at e
 | .cons _ _,_::_,[],_,hv,_=>hv.elim
 | .int _,_,_,_,_,e=>by simp [C7] at e
 | .bool,_,_,_,_,e=>by simp [C7] at e
 | .str,_,_,_,_,e=>by simp [C7] at e
 | .sl _,_,_,_,_,e=>by simp [C7] at e
theorem OC {E1:Env} {U0:List Bx} (hs:Bw bk vw) (h:E6 E w vw bk Fs) (st: ∀c,E.S c→E.T c) (hT: ∀c,Qj E Fs c→E1.T c):
  ∀{r:Ty} {l:List AV} {vs:List Value} {x:r.D},N1 E w vw l vs→C7 bk r l=some x→N1 E1 w U0 (Rg r x) vs
 | .unit,[],[],x,_,_=>trivial
 | .cons c r,a::l,v::vs,x,hv,e=>by
  simp only [C7,Option.bind_eq_some_iff,Option.map_eq_some_iff] at e
  obtain ⟨y,e1,z,e2,rfl⟩:=e
  have Km:=Il hs h st hv.1 e1
  have tl:N1 E1 w U0 _ _:=OC hs h st hT hv.2 e2
  cases c with
  |sl q=>
   refine ⟨?_,tl⟩
   simp only [VR]
   exact B6 hT (fun _ _=>rfl) (by simpa using Km)
  |int k=>exact ⟨⟨rfl,by simpa only [Rd] using Km⟩,tl⟩
  |bool=>exact ⟨⟨rfl,by simpa only [Rd] using Km⟩,tl⟩
  |str=>exact ⟨⟨rfl,by simpa only [Rd] using Km⟩,tl⟩
  |unit=>
   exfalso
   simp only [Rd] at Km
   cases Km
  |cons c' r' =>
   exfalso
   cases a with
   |v u z=>
    simp only [Et] at e1
    obtain ⟨e3,_⟩:=C3 e1
    subst e3
    exact absurd hv.1.1 (by simp [Ty.scalar])
   |_=>simp [Et] at e1
 | .unit,_::_,_,_,_,e=>by simp [C7] at e
 | .unit,[],_::_,_,hv,_=>hv.elim
 | .cons _ _,[],_,_,_,e=>by simp [C7] at e
 | .cons _ _,_::_,[],_,hv,_=>hv.elim
 | .int _,_,_,_,_,e=>by simp [C7] at e
 | .bool,_,_,_,_,e=>by simp [C7] at e
 | .str,_,_,_,_,e=>by simp [C7] at e
 | .sl _,_,_,_,_,e=>by simp [C7] at e
end
end Go.Fw
end
section
namespace Go.Fw
def Ext (m m':GI):Prop:=m'.length=m.length∧ ∀(i b:Nat),m[i]? =some (some b)→m'[i]? =some (some b)
theorem Ext.refl (m:GI):Ext m m:=⟨rfl,fun _ _ h=>h⟩
theorem Ext.trans {m m' jt:GI} (h:Ext m m') (k:Ext m' jt):Ext m jt:=⟨k.1.trans h.1,fun i b e=>k.2 i b (h.2 i b e)⟩
def RK (m:GI):Prop:= ∀(i j b:Nat),m[i]? =some (some b)→m[j]? =some (some b)→i=j
theorem Mf {m m':GI} {i b:Nat} (e:m.put i b=some m'):Ext m m'∧m'[i]? =some (some b)∧(RK m→RK m'):=by
 unfold GI.put at e
 split at e
 ·rename_i h
  split at e
  ·cases e
  ·rename_i hc
   cases e
   have Dw:=(List.getElem?_eq_some_iff.1 h).1
   have Zy: ∀(k:Nat),m[k]?≠some (some b):=fun k hk=>hc (by
    rw [List.contains_iff_mem];exact List.mem_of_getElem? hk)
   refine ⟨⟨by simp,fun k c hk=> ?_⟩,by simp [Dw],fun hi j k c hj hk=> ?_⟩
   ·by_cases e:k=i
    ·subst e;rw [h] at hk;cases hk
    ·rw [List.getElem?_set_ne (by omega)];exact hk
   ·by_cases e1:j=i<;>by_cases e2:k=i
    ·omega
    ·subst e1
     rw [List.getElem?_set_self Dw] at hj
     rw [List.getElem?_set_ne (by omega)] at hk
     cases hj
     exact absurd hk (Zy k)
    ·subst e2
     rw [List.getElem?_set_self Dw] at hk
     rw [List.getElem?_set_ne (by omega)] at hj
     cases hk
     exact absurd hj (Zy j)
    ·rw [List.getElem?_set_ne (by omega)] at hj hk
     exact hi j k c hj hk
 ·rename_i b' h
  split at e
  ·rename_i hb
   cases e;subst hb
   exact ⟨Ext.refl _,h,fun h=>h⟩
  ·cases e
 ·cases e
def HY (m:GI):List Nat→List Nat→Prop
 |[],[]=>True
 |i::is,b::bs=>m[i]? =some (some b)∧HY m is bs
 |_,_=>False
theorem HY.ext {m m':GI} (h:Ext m m'): ∀{is bs},HY m is bs→HY m' is bs
 |[],[],_=>trivial
 |_::_,_::_,k=>⟨h.2 _ _ k.1,HY.ext h k.2⟩
theorem N9: ∀{is bs:mu} {m m':GI},Lr m is bs=some m'→Ext m m'∧HY m' is bs∧(RK m→RK m')
 |[],[],m,m',e=>by simp only [Lr,Option.some.injEq] at e;subst e;exact ⟨Ext.refl _,trivial,fun h=>h⟩
 |i::is,b::bs,m,m',e=>by
  simp only [Lr,Option.bind_eq_some_iff] at e
  obtain ⟨m1,e1,e2⟩:=e
  obtain ⟨a1,a2,a3⟩:=Mf e1
  obtain ⟨b1,b2,b3⟩:=N9 e2
  exact ⟨a1.trans b1,⟨b1.2 _ _ a2,b2⟩,fun h=>b3 (a3 h)⟩
 |[],_::_,_,_,e=>by simp [Lr] at e
 |_::_,[],_,_,e=>by simp [Lr] at e
def HL (N:Nat) (m:GI):AP→AV→Prop
 | .ref i,x=> ∃b,(x= .ref b []∨(x= .nil∧b=N+i))∧m[i]? =some (some b)
 | .ptr i j,x=> ∃b,x= .C2 b j∧m[i]? =some (some b)
 | .fn f Dr,x=> ∃bs,x= .fn f bs∧HY m Dr bs
 | .nil,x=>x= .nil
 | .PA i sz,x=> ∃b k j,x= .ref b [⟨k,sz,j⟩]∧m[i]? =some (some b)
 |_,_=>True
theorem HL.ext {N:Nat} {m m':GI} (h:Ext m m') {p:AP} {x:AV} (k:HL N m p x):HL N m' p x:=by
 cases p with
 |ref i=>obtain ⟨b,hx,k⟩:=k;exact ⟨b,hx,h.2 _ _ k⟩
 |ptr i j=>obtain ⟨b,rfl,k⟩:=k;exact ⟨b,rfl,h.2 _ _ k⟩
 |fn f Dr=>obtain ⟨bs,rfl,k⟩:=k;exact ⟨bs,rfl,k.ext h⟩
 |nil=>exact k
 |PA i sz=>obtain ⟨b,q,j,rfl,k⟩:=k;exact ⟨b,q,j,rfl,h.2 _ _ k⟩
 |_=>trivial
theorem Mo {N:Nat} {m m':GI} {p:AP} {x:AV} (e:p.FO N m x=some m'):Ext m m'∧HL N m' p x∧(RK m→RK m'):=by
 cases p with
 |ref i=>
  cases x with
  |ref b q=>
   cases q with
   |nil=>
    obtain ⟨a,b,c⟩:=Mf (by simpa only [AP.FO] using e)
    exact ⟨a,⟨_,.inl rfl,b⟩,c⟩
   |cons _ _=>simp [AP.FO] at e
  |nil=>
   obtain ⟨a,b,c⟩:=Mf (by simpa only [AP.FO] using e)
   exact ⟨a,⟨_,.inr ⟨rfl,rfl⟩,b⟩,c⟩
  |_=>simp [AP.FO] at e
 |ptr i j=>
  cases x with
  |C2 b j' =>
   simp only [AP.FO] at e
   split at e
   ·rename_i hj
    subst hj
    obtain ⟨a,b,c⟩:=Mf e
    exact ⟨a,⟨_,rfl,b⟩,c⟩
   ·cases e
  |_=>simp [AP.FO] at e
 |fn f Dr=>
  cases x with
  |fn g bs=>
   simp only [AP.FO] at e
   split at e
   ·rename_i hf
    subst hf
    obtain ⟨a,b,c⟩:=N9 e
    exact ⟨a,⟨_,rfl,b⟩,c⟩
   ·cases e
  |_=>simp [AP.FO] at e
 |nil=>
  cases x with
  |nil=>simp only [AP.FO,Option.some.injEq] at e;subst e;exact ⟨Ext.refl _,rfl,fun h=>h⟩
  |_=>simp [AP.FO] at e
 |PA i sz=>
  cases x with
  |ref b q=>
   cases q with
   |nil=>simp [AP.FO] at e
   |cons s q=>
    cases q with
    |nil=>
     simp only [AP.FO] at e
     split at e
     ·rename_i hs
      obtain ⟨a,b,c⟩:=Mf e
      obtain ⟨k,z,y⟩:=s
      dsimp only at hs
      subst hs
      exact ⟨a,⟨_,k,y,rfl,b⟩,c⟩
     ·cases e
    |cons _ _=>simp [AP.FO] at e
  |_=>simp [AP.FO] at e
 |_=>
  have:m=m':=by cases x<;>simpa [AP.FO] using e
  subst this
  exact ⟨Ext.refl _,trivial,fun h=>h⟩
theorem JV {N:Nat}: ∀{l:List AP} {xs:List AV} {m m':GI},KE.FO N m l xs=some m'→Ext m m'∧Ai (HL N m') l xs∧(RK m→RK m')
 |[],[],m,m',e=>by simp only [KE.FO,Option.some.injEq] at e;subst e;exact ⟨Ext.refl _,trivial,fun h=>h⟩
 |p::l,x::xs,m,m',e=>by
  simp only [KE.FO,Option.bind_eq_some_iff] at e
  obtain ⟨m1,e1,e2⟩:=e
  obtain ⟨a1,a2,a3⟩:=Mo e1
  obtain ⟨b1,b2,b3⟩:=JV e2
  exact ⟨a1.trans b1,⟨a2.ext b1,b2⟩,fun h=>b3 (a3 h)⟩
 |[],_::_,_,_,e=>by simp [KE.FO] at e
 |_::_,[],_,_,e=>by simp [KE.FO] at e
def Ni (N:Nat) (m:GI):AP ⊕ List AP→AV ⊕ List AV→Prop
 | .inl p,.inl x=>HL N m p x
 | .inr p,.inr x=>Ai (HL N m) p x
 |_,_=>False
theorem Ni.ext {N:Nat} {m m':GI} (h:Ext m m'): ∀{p:AP ⊕ List AP} {x:AV ⊕ List AV},Ni N m p x→Ni N m' p x
 | .inl _,.inl _,k=>HL.ext h k
 | .inr _,.inr _,k=>Ai.imp (fun _ _ k=>HL.ext h k) k
theorem Ls {N:Nat}: ∀{l:List (AP ⊕ List AP)} {xs:List (AV ⊕ List AV)} {m m':GI},KR.FO N m l xs=some m'→Ext m m'∧Ai (Ni N m') l xs∧(RK m→RK m')
 |[],[],m,m',e=>by simp only [KR.FO,Option.some.injEq] at e;subst e;exact ⟨Ext.refl _,trivial,fun h=>h⟩
 | .inl p::l,.inl x::xs,m,m',e=>by
  simp only [KR.FO,Option.bind_eq_some_iff] at e
  obtain ⟨m1,e1,e2⟩:=e
  obtain ⟨a1,a2,a3⟩:=Mo e1
  obtain ⟨b1,b2,b3⟩:=Ls e2
  exact ⟨a1.trans b1,⟨HL.ext b1 a2,b2⟩,fun h=>b3 (a3 h)⟩
 | .inr p::l,.inr x::xs,m,m',e=>by
  simp only [KR.FO,Option.bind_eq_some_iff] at e
  obtain ⟨m1,e1,e2⟩:=e
  obtain ⟨a1,a2,a3⟩:=JV e1
  obtain ⟨b1,b2,b3⟩:=Ls e2
  exact ⟨a1.trans b1,⟨Ai.imp (fun _ _ k=>HL.ext b1 k) a2,b2⟩,fun h=>b3 (a3 h)⟩
 |[],_::_,_,_,e=>by simp [KR.FO] at e
 | .inl _::_,[],_,_,e=>by simp [KR.FO] at e
 | .inr _::_,[],_,_,e=>by simp [KR.FO] at e
 | .inl _::_,.inr _::_,_,_,e=>by simp [KR.FO] at e
 | .inr _::_,.inl _::_,_,_,e=>by simp [KR.FO] at e
def Ln (N:Nat) (m:GI):XP→XV→Prop
 | .c p,.c x=>HL N m p x
 | .agg l,.agg xs=>Ai (HL N m) l xs
 | .row _,.agg _=>True
 | .Hi l,.Hi xs=>Ai (Ni N m) l xs
 |_,_=>False
theorem Ln.ext {N:Nat} {m m':GI} (h:Ext m m'): ∀{p:XP} {x:XV},Ln N m p x→Ln N m' p x
 | .c _,.c _,k=>HL.ext h k
 | .agg _,.agg _,k=>Ai.imp (fun _ _ k=>HL.ext h k) k
 | .row _,.agg _,_=>trivial
 | .Hi _,.Hi _,k=>Ai.imp (fun _ _ k=>Ni.ext h k) k
theorem Uc {N:Nat} {m m':GI}: ∀{p:XP} {x:XV},p.FO N m x=some m'→Ext m m'∧Ln N m' p x∧(RK m→RK m')
 | .c p,.c x,e=>Mo (by simpa only [XP.FO] using e)
 | .agg l,.agg xs,e=>JV (by simpa only [XP.FO] using e)
 | .row r,.agg xs,e=>by simp only [XP.FO,Option.some.injEq] at e;subst e;exact ⟨Ext.refl _,trivial,fun h=>h⟩
 | .Hi l,.Hi xs,e=>Ls (by simpa only [XP.FO] using e)
 | .c _,.agg _,e=>by simp [XP.FO] at e
 | .c _,.Hi _,e=>by simp [XP.FO] at e
 | .agg _,.c _,e=>by simp [XP.FO] at e
 | .agg _,.Hi _,e=>by simp [XP.FO] at e
 | .row _,.c _,e=>by simp [XP.FO] at e
 | .row _,.Hi _,e=>by simp [XP.FO] at e
 | .Hi _,.c _,e=>by simp [XP.FO] at e
 | .Hi _,.agg _,e=>by simp [XP.FO] at e
theorem Ms {N:Nat} {tm:List XV}: ∀{l:List (Nat×XP)} {m m':GI},Cd.FO N tm m l=some m'→
  Ext m m'∧(∀q∈l,∃x,tm[q.1]? =some x∧Ln N m' q.2 x)∧(RK m→RK m')
 |[],m,m',e=>by simp only [Cd.FO,Option.some.injEq] at e;subst e;exact ⟨Ext.refl _,by simp,fun h=>h⟩
 |(i,p)::l,m,m',e=>by
  simp only [Cd.FO] at e
  split at e
  ·rename_i x hx
   simp only [Option.bind_eq_some_iff] at e
   obtain ⟨m1,e1,e2⟩:=e
   obtain ⟨a1,a2,a3⟩:=Uc e1
   obtain ⟨b1,b2,b3⟩:=Ms e2
   refine ⟨a1.trans b1,?_,fun h=>b3 (a3 h)⟩
   intro q hq
   rcases List.mem_cons.1 hq with rfl|hq
   ·exact ⟨x,hx,Ln.ext b1 a2⟩
   ·exact b2 q hq
  ·cases e
theorem JU {N:Nat} {bx:List Bx}: ∀{l:List BP} {i:Nat} {m m':GI},DX.FO N bx i m l=some m'→
  Ext m m'∧(∀(k:Nat) q,l[k]? =some (.mem q)→ ∃b cs,m'[i+k]? =some (some b)∧bx[b]? =some (.mem cs)∧Ai (HL N m') q cs)∧
   (∀(k:Nat) d r,l[k]? =some (.sl d r)→ ∃b,m'[i+k]? =some (some b))∧(RK m→RK m')
 |[],i,m,m',e=>by simp only [DX.FO,Option.some.injEq] at e;subst e;exact ⟨Ext.refl _,by simp,by simp,fun h=>h⟩
 | .mem q::l,i,m,m',e=>by
  simp only [DX.FO] at e
  split at e
  ·rename_i b hb
   split at e
   ·rename_i cs Xk
    simp only [Option.bind_eq_some_iff] at e
    obtain ⟨m1,e1,e2⟩:=e
    obtain ⟨a1,a2,a3⟩:=JV e1
    obtain ⟨b1,b2,b4,b3⟩:=JU e2
    refine ⟨a1.trans b1,?_,?_,fun h=>b3 (a3 h)⟩
    ·intro k q' hk
     cases k with
     |zero=>cases hk;exact ⟨b,cs,b1.2 _ _ (a1.2 _ _ hb),Xk,Ai.imp (fun _ _ k=>HL.ext b1 k) a2⟩
     |succ k=>
      have:=b2 k q' (by simpa using hk)
      rwa [show i+1+k=i+(k+1) by omega] at this
    ·intro k d r hk
     cases k with
     |zero=>cases hk
     |succ k=>
      have:=b4 k d r (by simpa using hk)
      rwa [show i+1+k=i+(k+1) by omega] at this
   ·cases e
  ·cases e
 | .sl d r::l,i,m,m',e=>by
  simp only [DX.FO] at e
  split at e
  ·rename_i b hb
   obtain ⟨b1,b2,b4,b3⟩:=JU e
   refine ⟨b1,?_,?_,b3⟩
   ·intro k q' hk
    cases k with
    |zero=>cases hk
    |succ k=>
     have:=b2 k q' (by simpa using hk)
     rwa [show i+1+k=i+(k+1) by omega] at this
   ·intro k d r hk
    cases k with
    |zero=>exact ⟨b,b1.2 _ _ hb⟩
    |succ k=>
     have:=b4 k d r (by simpa using hk)
     rwa [show i+1+k=i+(k+1) by omega] at this
  ·cases e
 | .gone::l,i,m,m',e=>by
  simp only [DX.FO] at e
  obtain ⟨b1,b2,b4,b3⟩:=JU e
  refine ⟨b1,?_,?_,b3⟩
  ·intro k q' hk
   cases k with
   |zero=>cases hk
   |succ k=>
    have:=b2 k q' (by simpa using hk)
    rwa [show i+1+k=i+(k+1) by omega] at this
  ·intro k d r hk
   cases k with
   |zero=>cases hk
   |succ k=>
    have:=b4 k d r (by simpa using hk)
    rwa [show i+1+k=i+(k+1) by omega] at this
theorem Hh {bx bk:List Bx} {ren:Nat→Nat}: ∀{l:List BP} {m:GI} {x:DX.V l},DX.get bx bk m l=some x→(DX.mk ren l x).length=l.length∧
  ∀(k:Nat) p,l[k]? =some p→ ∃y:p.V,(DX.mk ren l x)[k]? =some (p.mk ren y)∧
   match p,y with
   | .mem q,y=> ∃b cs,m[k]? =some (some b)∧bx[b]? =some (.mem cs)∧KE.get bk q cs=some y
   | .sl d r,y=> ∃b d',m[k]? =some (some b)∧bx[b]? =some (.sl d' r y)∧1≤d∧d≤d'
   | .gone,_=>True
 |[],m,x,e=>⟨rfl,by simp⟩
 | .mem q::l,some b::m,x,e=>by
  simp only [DX.get] at e
  split at e
  ·rename_i cs Xk
   simp only [Option.bind_eq_some_iff,Option.map_eq_some_iff] at e
   obtain ⟨a,e1,c,e2,rfl⟩:=e
   obtain ⟨h1,h2⟩:=Hh (ren:=ren) e2
   refine ⟨by simp [DX.mk,h1],fun k p hk=> ?_⟩
   cases k with
   |zero=>cases hk;exact ⟨a,rfl,b,cs,rfl,Xk,e1⟩
   |succ k=>
    obtain ⟨y,k1,k2⟩:=h2 k p (by simpa using hk)
    exact ⟨y,by simpa [DX.mk] using k1,by simpa using k2⟩
  ·cases e
 | .sl d r::l,some b::m,x,e=>by
  simp only [DX.get] at e
  split at e
  ·rename_i d' q rows hb
   split at e
   ·rename_i hd
    simp only [Option.bind_eq_some_iff,Option.map_eq_some_iff] at e
    obtain ⟨a,e1,c,e2,rfl⟩:=e
    obtain ⟨e3,e4⟩:=C3 e1
    subst e3;subst e4
    obtain ⟨h1,h2⟩:=Hh (ren:=ren) e2
    refine ⟨by simp [DX.mk,h1],fun k p hk=> ?_⟩
    cases k with
    |zero=>cases hk;exact ⟨rows,rfl,b,d',rfl,hb,hd.1,hd.2⟩
    |succ k=>
     obtain ⟨y,k1,k2⟩:=h2 k p (by simpa using hk)
     exact ⟨y,by simpa [DX.mk] using k1,by simpa using k2⟩
   ·cases e
  ·cases e
 | .gone::l,o::m,x,e=>by
  have e':(DX.get bx bk m l).map (fun c=>((),c))=some x:=by cases o<;>simpa only [DX.get] using e
  simp only [Option.map_eq_some_iff] at e'
  obtain ⟨c,e2,rfl⟩:=e'
  obtain ⟨h1,h2⟩:=Hh (ren:=ren) e2
  refine ⟨by simp [DX.mk,h1],fun k p hk=> ?_⟩
  cases k with
  |zero=>cases hk;exact ⟨(),rfl,trivial⟩
  |succ k=>
   obtain ⟨y,k1,k2⟩:=h2 k p (by simpa using hk)
   exact ⟨y,by simpa [DX.mk] using k1,by simpa using k2⟩
 | .mem q::l,none::m,x,e=>by simp [DX.get] at e
 | .sl d r::l,none::m,x,e=>by simp [DX.get] at e
 | .mem _::_,[],x,e=>by simp [DX.get] at e
 | .sl _ _::_,[],x,e=>by simp [DX.get] at e
 | .gone::_,[],x,e=>by simp [DX.get] at e
theorem Cv: ∀{m:GI} {bx:List Bx},(Ay bx m).length=bx.length
 |[],_=>rfl
 |some b::m,bx=>by simp [Ay,Cv]
 |none::m,bx=>by simp [Ay,Cv]
theorem HV: ∀{m:GI} {bx vw:List Bx},Bw bx vw→Bw (Ay bx m) vw
 |[],_,_,h=>h
 |none::m,bx,vw,h=>by simp only [Ay];exact HV h
 |some b::m,bx,vw,h=>by
  simp only [Ay]
  refine HV fun k B hk=> ?_
  by_cases e:k=b
  ·subst e
   have Dw:=(List.getElem?_eq_some_iff.1 hk).1
   rw [List.getElem?_set_self (by simpa using Dw)] at hk
   cases hk
   exact .inl rfl
  ·rw [List.getElem?_set_ne (by omega)] at hk
   exact h k B hk
theorem JL: ∀{m:GI} {bx:List Bx} {b:Nat} {B:Bx},some b∈m→(Ay bx m)[b]? =some B→B= .dead
 |some c::m,bx,b,B,h,e=>by
  simp only [Ay] at e
  by_cases hm:some b∈m
  ·exact JL hm e
  ·have:c=b:=by
    rcases List.mem_cons.1 h with h|h
    ·cases h;rfl
    ·exact absurd h hm
   subst this
   have: ∀{m:GI} {bx:List Bx},bx[c]? =some .dead→some c∉m→(Ay bx m)[c]? =some .dead:=by
    intro m
    induction m with
    |nil=>intro bx h _;exact h
    |cons o m ih=>
     intro bx h hn
     cases o with
     |none=>simp only [Ay];exact ih h (fun hh=>hn (List.mem_cons_of_mem _ hh))
     |some d=>
      simp only [Ay]
      refine ih ?_ (fun hh=>hn (List.mem_cons_of_mem _ hh))
      have:d≠c:=fun hh=>hn (by subst hh;simp)
      rw [List.getElem?_set_ne (by omega)]
      exact h
   have Dw:c<bx.length:=by
    have:=(List.getElem?_eq_some_iff.1 e).1
    simpa [Cv] using this
   have:=this (m:=m) (bx:=bx.set c .dead) (by simp [Dw]) hm
   rw [this] at e
   cases e;rfl
 |none::m,bx,b,B,h,e=>by
  simp only [Ay] at e
  exact JL (by simpa using h) e
theorem QM {E:Env} {w:World} {vw:List Bx}: ∀{m:GI} {bx:List Bx} {G:mu},RK m→A6 E w vw bx G→
  ∃Gs:List mu,Gs.length=m.length∧(∀(k b:Nat) B F,m[k]? =some (some b)→bx[b]? =some B→Gs[k]? =some F→RI E w vw b B F)∧
   A6 E w vw (Ay bx m) (Gs.flatten++G)
 |[],bx,G,_,h=>⟨[],rfl,by simp,h⟩
 |none::m,bx,G,hi,h=>by
  obtain ⟨Gs,h1,h2,h3⟩:=QM (m:=m) (fun i j b Kt hj=>by
   have:=hi (i+1) (j+1) b (by simpa using Kt) (by simpa using hj);omega) h
  refine ⟨[]::Gs,by simp [h1],fun k b B F hk hB hF=> ?_,by simpa [Ay] using h3⟩
  cases k with
  |zero=>simp at hk
  |succ k=>exact h2 k b B F (by simpa using hk) hB (by simpa using hF)
 |some b::m,bx,G,hi,h=>by
  have Zo:RK m:=fun i j b Kt hj=>by
   have:=hi (i+1) (j+1) b (by simpa using Kt) (by simpa using hj);omega
  cases e:bx[b]? with
  |none=>
   have MF:bx.set b .dead=bx:=List.set_eq_of_length_le (by simpa using e)
   obtain ⟨Gs,h1,h2,h3⟩:=QM (m:=m) Zo h
   refine ⟨[]::Gs,by simp [h1],fun k b' B F hk hB hF=> ?_,by simpa [Ay,MF] using h3⟩
   cases k with
   |zero=>simp at hk;subst hk;rw [e] at hB;cases hB
   |succ k=>exact h2 k b' B F (by simpa using hk) hB (by simpa using hF)
  |some B0=>
   obtain ⟨F0,k1,k2⟩:=h.take e
   obtain ⟨Gs,h1,h2,h3⟩:=QM (m:=m) Zo k2
   refine ⟨F0::Gs,by simp [h1],fun k b' B F hk hB hF=> ?_,?_⟩
   ·cases k with
    |zero=>
     simp at hk hF
     subst hk hF
     rw [e] at hB;cases hB
     exact k1
    |succ k=>
     have PZ:b'≠b:=fun hh=>by
      have:=hi 0 (k+1) b (by simp) (by subst hh;simpa using hk)
      omega
     exact h2 k b' B F (by simpa using hk) (by rw [List.getElem?_set_ne (by omega)];exact hB) (by simpa using hF)
   ·simp only [Ay]
    refine h3.perm ?_
    rw [List.flatten_cons,←List.append_assoc]
    exact List.Perm.append_right _ List.perm_append_comm
end Go.Fw
end
section
namespace Go.Fw
theorem RQ {R:Nat→List Nat→List Nat→List Nat→Prop}: ∀(Gs:List mu) (o:Nat),(∀(k:Nat) G,Gs[k]? =some G→ ∃F W,G.Perm (F++W)∧R (o+k) G F W)→
  ∃Fs Ws:List mu,Fs.length=Gs.length∧Ws.length=Gs.length∧Gs.flatten.Perm (Fs.flatten++Ws.flatten)∧
   ∀(k:Nat) G F W,Gs[k]? =some G→Fs[k]? =some F→Ws[k]? =some W→R (o+k) G F W
 |[],o,_=>⟨[],[],rfl,rfl,by simp,by simp⟩
 |G::Gs,o,h=>by
  obtain ⟨F,W,hp,hr⟩:=h 0 G rfl
  obtain ⟨Fs,Ws,h1,h2,h3,h4⟩:=RQ Gs (o+1) (fun k G hk=>by
   have:=h (k+1) G (by simpa using hk)
   rwa [show o+1+k=o+(k+1) by omega])
  refine ⟨F::Fs,W::Ws,by simp [h1],by simp [h2],?_,fun k G' F' W' hG hF hW=> ?_⟩
  ·simp only [List.flatten_cons]
   refine (hp.append h3).trans ?_
   rw [List.append_assoc,List.append_assoc]
   refine List.Perm.append_left _ ?_
   rw [←List.append_assoc,←List.append_assoc]
   exact List.Perm.append_right _ List.perm_append_comm
  ·cases k with
   |zero=>simp at hG hF hW;subst hG hF hW;exact hr
   |succ k=>
    have:=h4 k G' F' W' (by simpa using hG) (by simpa using hF) (by simpa using hW)
    rwa [show o+1+k=o+(k+1) by omega] at this
def GJ (E:Env) (w:World) (vw:List Bx) (ren:Nat→Nat):(l:List (Nat×XP))→Cd.V l→List Value→Prop
 |[],_,_=>True
 |(i,p)::l,x,vals=>(∃v,vals[i]? =some v∧XR E w vw (p.mk ren x.1) v)∧GJ E w vw ren l x.2 vals
section
variable {E E1:Env} {w:World} {bx bk U0:List Bx} {Fk:List mu} {m:GI}
theorem HY.map {f:Nat→Nat} (h: ∀(i b:Nat),m[i]? =some (some b)→E1.C5 i=E.C5 b): ∀{is bs:mu},HY m is bs→
  (is.map fun b=>Value.pointer (some ⟨E1.C5 b,0,none⟩))=bs.map fun b=>Value.pointer (some ⟨E.C5 b,0,none⟩)
 |[],[],_=>rfl
 |i::is,b::bs,k=>by simp [h i b k.1,HY.map (f:=f) h k.2]
theorem HY.lt: ∀{is bs:mu},HY m is bs→ ∀i∈is,i<m.length
 |[],[],_,_,h=>by simp at h
 |i::is,b::bs,k,j,h=>by
  rcases List.mem_cons.1 h with rfl|h
  ·exact (List.getElem?_eq_some_iff.1 k.1).1
  ·exact HY.lt k.2 j h
structure ZC (N:Nat) (E:Env) (w:World) (bx bk:List Bx) (Fk:List mu) (m:GI) (E1:Env) (U0:List Bx):Prop where
 within:Bw bk bx
 boxes:E6 E w bx bk Fk
 st: ∀c,E.S c→E.T c
 T: ∀c,Qj E Fk c→E1.T c
 S: ∀c,E.S c→E1.S c
 ids: ∀(i b:Nat),m[i]? =some (some b)→E1.C5 i=E.C5 b∧E1.DB i=E.DB b
 len:m.length≤U0.length
 nil: ∀(i:Nat) d r rows,U0[i]? =some (.sl d r rows)→E.DB (N+i)= .slice none 0 0
 sl: ∀(i:Nat) d r rows,i<m.length→U0[i]? =some (.sl d r rows)→ ∃b d',m[i]? =some (some b)∧bx[b]? =some (.sl d' r rows)
variable {N:Nat} (k:ZC N E w bx bk Fk m E1 U0)
include k
theorem Va {p:AP} {x:AV} {v:Value} (hv:VR E w bx x v) (ha:HL N m p x) {y:p.V} (e:p.get bk x=some y):VR E1 w U0 (p.mk id y) v:=by
 cases p with
 |v t=>
  simp only [AP.get] at e
  split at e
  ·rename_i hs
   have hr:=Il k.within k.boxes k.st hv e
   refine ⟨hs,?_⟩
   cases t with
   |int _=>simpa only [Rd] using hr
   |bool=>simpa only [Rd] using hr
   |str=>simpa only [Rd] using hr
   |_=>simp [Ty.scalar] at hs
  ·cases e
 |sl s r=>
  cases s with
  |false=>
   simp only [AP.get] at e
   have hr:=Il k.within k.boxes k.st hv e
   simp only [AP.mk,VR]
   exact B6 k.T (fun _ _=>rfl) (by simpa using hr)
  |true=>
   simp only [AP.get] at e
   split at e
   ·rename_i q z
    obtain ⟨e1,e2⟩:=C3 e
    subst e1;subst e2
    simp only [AP.mk,VR] at hv⊢
    exact B6 k.S (fun _ _=>rfl) (by simpa using hv)
   ·cases e
    simp only [AP.mk,VR] at hv⊢
    subst hv
    simp only [Rd]
    exact ⟨none,0,rfl,by simp,.inl rfl⟩
   ·cases e
 |nil=>
  obtain rfl:=ha
  exact hv
 |ref i=>
  obtain ⟨b,hx,hm⟩:=ha
  have hi:=(List.getElem?_eq_some_iff.1 hm).1
  simp only [AP.mk,id,VR]
  rcases hx with rfl|⟨rfl,rfl⟩
  ·have gk:=hv.1
   refine ⟨gk,?_⟩
   cases e1:U0[i]? with
   |none=>simp at e1;have:=k.len;omega
   |some B=>
    cases B with
    |sl d r rows=>
     obtain ⟨b',d',h1,h2⟩:=k.sl i d r rows hi e1
     rw [hm] at h1;cases h1
     simp only [VR,h2] at hv
     replace hv:=hv.2
     refine ⟨by simp [BA],⟨_,rfl⟩,?_⟩
     rw [(k.ids i b hm).2]
     exact hv.2.2
    |_=>trivial
  ·have L8:v= .slice none 0 0:=hv
   subst L8
   refine ⟨rfl,?_⟩
   cases e1:U0[i]? with
   |none=>simp at e1;have:=k.len;omega
   |some B=>
    cases B with
    |sl d r rows=>
     refine ⟨by simp [BA],⟨_,rfl⟩,?_⟩
     rw [(k.ids i _ hm).2,k.nil i d r rows e1,Aw]
    |_=>trivial
 |ptr i j=>
  obtain ⟨b,rfl,hm⟩:=ha
  have hi:=(List.getElem?_eq_some_iff.1 hm).1
  exact ⟨Nat.lt_of_lt_of_le hi k.len,by rw [hv.2,id,(k.ids i b hm).1]⟩
 |SK r=>
  simp only [AP.get] at e
  split at e
  ·rename_i s q z
   obtain ⟨e1,e2⟩:=C3 e
   subst e1;subst e2
   simp only [AP.mk,VR] at hv⊢
   obtain ⟨bb,o,cs,h1,h2,h3,h4,h5⟩:=hv
   have Yh: ∀c,(if s=true then E.S else E.T) c→E1.T c:=by
    intro c hc
    cases s
    ·exact k.T c (.inl (by simpa using hc))
    ·exact k.T c (.inl (k.st c (by simpa using hc)))
   exact ⟨bb,o,cs,h1,by simpa using Yh bb h2,h3,h4,by simpa using B6 Yh (fun _ _=>rfl) h5⟩
  ·rename_i b
   split at e
   ·rename_i cs hb
    obtain ⟨F,⟨hF,arr,ty,fr,ha,hu,J9⟩,Pn⟩:=k.boxes.get hb
    have Km:=Nx k.within k.boxes k.st J9 e
    simp only [AP.mk,VR]
    refine ⟨E.C5 b,0,arr.toList,by simpa using hv.2,?_,PM Km,?_,by simpa using B6 k.T (fun _ _=>rfl) Km⟩
    ·simp only [Bool.false_eq_true,if_false]
     exact k.T _ (.inr (Pn _ (by rw [hF];simp)))
    ·intro j u hj
     simp only [Nat.zero_add,World.cell?,ha,Option.isSome_none,Bool.false_eq_true,if_false]
     simpa using hj
   ·cases e
  ·rename_i b p i sz
   split at e
   ·rename_i d q rows hb
    simp only [Option.bind_eq_some_iff] at e
    obtain ⟨⟨q',ys⟩,e1,e2⟩:=e
    split at e2
    case isFalse=>cases e2
    rename_i GN
    obtain ⟨e3,e4⟩:=C3 e2
    dsimp only at e3
    subst e3;subst e4
    simp only [VR,KM k.within hb] at hv
    obtain ⟨_,hp,q1,ys1,bb,o,len,cap,hg,hi,hh,rfl⟩:=hv
    rw [hg] at e1
    simp only [Option.some.injEq,Sigma.mk.injEq] at e1
    obtain ⟨e5,e6⟩:=e1
    subst e5
    obtain rfl:=eq_of_heq e6
    have Km:=Ma k.within k.boxes k.st hb hp hg hh
    simp only [Rd] at Km
    obtain ⟨a',cap',ee,_,Km⟩:=Km
    simp only [List.cons.injEq,Value.slice.injEq,and_true] at ee
    obtain ⟨rfl,rfl,rfl⟩:=ee
    rcases Km with Km|⟨b1,o1,e7,hb1,Km⟩
    ·omega
    ·cases e7
     obtain ⟨cs,c1,c2,c3⟩:=Km i _ (G2 hi)
     simp only [AP.mk,VR]
     refine ⟨bb,o+i*q1.n,cs,by rw [GN],by simpa using k.T _ hb1,c1,c2,by simpa using B6 k.T (fun _ _=>rfl) c3⟩
   ·cases e
  ·cases e
 |fn f Dr=>
  obtain ⟨bs,rfl,hc⟩:=ha
  refine ⟨fun i hi=>Nat.lt_of_lt_of_le (hc.lt i (by simpa [AP.mk] using hi)) k.len,?_⟩
  rw [hv.2]
  simp only [AP.mk,List.map_id]
  rw [HY.map (f:=id) (fun i b h=>(k.ids i b h).1) hc]
 |Sj f rs=>
  simp only [AP.get] at e
  split at e
  ·rename_i g rows
   split at e
   case isFalse=>cases e
   rename_i g7
   subst g7
   obtain ⟨ps,L3,LP⟩:=hv
   refine ⟨ps,L3,?_⟩
   clear ha L3
   induction rs generalizing rows ps with
   |nil=>
    cases rows with
    |nil=>
     cases ps with
     |nil=>trivial
     |cons _ _=>exact LP.elim
    |cons _ _=>simp [Kn.Q8] at e
   |cons r rs ih=>
    cases rows with
    |nil=>simp [Kn.Q8] at e
    |cons q rows=>
     cases ps with
     |nil=>exact LP.elim
     |cons p ps=>
      simp only [Kn.Q8,Option.bind_eq_some_iff,Option.map_eq_some_iff] at e
      obtain ⟨x1,e1,x2,e2,rfl⟩:=e
      obtain ⟨q1,q2⟩:=q
      obtain ⟨e3,e4⟩:=C3 e1
      dsimp only at e3
      subst e3;subst e4
      obtain ⟨⟨bb,o,cs,h1,h2,h3,h4,h5⟩,LP⟩:=LP
      exact ⟨⟨bb,o,cs,h1,k.T bb (.inl h2),h3,h4,B6 (fun b hb=>k.T b (.inl hb)) (fun _ _=>rfl) h5⟩,ih rows e2 ps LP⟩
  ·rename_i g bs
   split at e
   case isFalse=>cases e
   rename_i g7
   subst g7
   obtain ⟨L3,LP⟩:=hv
   refine ⟨bs.map fun b=>Value.pointer (some ⟨E.C5 b,0,none⟩),LP,?_⟩
   clear ha L3 LP
   induction rs generalizing bs with
   |nil=>
    cases bs with
    |nil=>trivial
    |cons _ _=>simp [Kn.Qg] at e
   |cons r rs ih=>
    cases bs with
    |nil=>simp [Kn.Qg] at e
    |cons b bs=>
     simp only [Kn.Qg,Option.bind_eq_some_iff,Option.map_eq_some_iff] at e
     obtain ⟨x1,e1,x2,e2,rfl⟩:=e
     split at e1
     case h_2=>cases e1
     rename_i cs hb
     obtain ⟨F,⟨hF,arr,ty,fr,ha,hu,J9⟩,Pn⟩:=k.boxes.get hb
     have Km:=Nx k.within k.boxes k.st J9 e1
     refine ⟨⟨E.C5 b,0,arr.toList,rfl,k.T _ (.inr (Pn _ (by rw [hF];simp))),PM Km,?_,B6 k.T (fun _ _=>rfl) Km⟩,ih bs e2⟩
     intro j u hj
     simp only [Nat.zero_add,World.cell?,ha,Option.isSome_none,Bool.false_eq_true,if_false]
     simpa using hj
  ·cases e
 |any=>trivial
 |PA i sz=>
  obtain ⟨b,q,j,rfl,hm⟩:=ha
  have hi:=(List.getElem?_eq_some_iff.1 hm).1
  simp only [AP.get,Option.some.injEq] at e
  subst e
  simp only [AP.mk,id,VR]
  have gk:=hv.1
  refine ⟨gk,?_⟩
  cases e1:U0[i]? with
  |none=>simp at e1;have:=k.len;omega
  |some B=>
   cases B with
   |sl d r rows=>
    obtain ⟨b',d',h1,h2⟩:=k.sl i d r rows hi e1
    rw [hm] at h1;cases h1
    simp only [VR,h2] at hv
    replace hv:=hv.2
    refine ⟨hv.1,hv.2.1,?_⟩
    rw [(k.ids i b hm).2]
    exact hv.2.2
   |_=>trivial
theorem QK: ∀{l:List AP} {xs:List AV} {vs:List Value},N1 E w bx xs vs→Ai (HL N m) l xs→ ∀{y:KE.V l},KE.get bk l xs=some y→N1 E1 w U0 (KE.mk id l y) vs
 |[],[],[],_,_,_,_=>trivial
 |p::l,x::xs,v::vs,hv,ha,y,e=>by
  simp only [KE.get,Option.bind_eq_some_iff,Option.map_eq_some_iff] at e
  obtain ⟨a,e1,b,e2,rfl⟩:=e
  exact ⟨Va k hv.1 ha.1 e1,QK hv.2 ha.2 e2⟩
 |[],[],_::_,hv,_,_,_=>hv.elim
 |_::_,_::_,[],hv,_,_,_=>hv.elim
 |[],_::_,_,_,ha,_,_=>ha.elim
 |_::_,[],_,_,ha,_,_=>ha.elim
theorem Tr: ∀{l:List (AP ⊕ List AP)} {xs:List (AV ⊕ List AV)} {vs:List Value},Ai (TR E w bx) xs vs→Ai (Ni N m) l xs→ ∀{y:KR.V l},KR.get bk l xs=some y→
  Ai (TR E1 w U0) (KR.mk id l y) vs
 |[],[],[],_,_,_,_=>trivial
 | .inl p::l,.inl x::xs,v::vs,hv,ha,y,e=>by
  simp only [KR.get,Option.bind_eq_some_iff,Option.map_eq_some_iff] at e
  obtain ⟨a,e1,b,e2,rfl⟩:=e
  exact ⟨Va k hv.1 ha.1 e1,Tr hv.2 ha.2 e2⟩
 | .inr p::l,.inr x::xs,v::vs,hv,ha,y,e=>by
  simp only [KR.get,Option.bind_eq_some_iff,Option.map_eq_some_iff] at e
  obtain ⟨a,e1,b,e2,rfl⟩:=e
  obtain ⟨⟨us,hu,hus⟩,h2⟩:=hv
  exact ⟨⟨us,hu,QK k hus ha.1 e1⟩,Tr h2 ha.2 e2⟩
 | .inl _::_,.inr _::_,_,_,ha,_,_=>ha.1.elim
 | .inr _::_,.inl _::_,_,_,ha,_,_=>ha.1.elim
 |[],[],_::_,hv,_,_,_=>hv.elim
 |_::_,_::_,[],hv,_,_,_=>hv.elim
 |[],_::_,_,_,ha,_,_=>ha.elim
 |_::_,[],_,_,ha,_,_=>ha.elim
theorem c_ {p:XP} {x:XV} {v:Value} (hv:XR E w bx x v) (ha:Ln N m p x) {y:p.V} (e:p.get bk x=some y):XR E1 w U0 (p.mk id y) v:=by
 cases p with
 |c p=>cases x with
  |c x=>exact Va k hv ha (by simpa only [XP.get] using e)
  |_=>exact ha.elim
 |agg l=>cases x with
  |agg xs=>
   obtain ⟨vs,rfl,J9⟩:=hv
   exact ⟨vs,rfl,QK k J9 ha (by simpa only [XP.get] using e)⟩
  |_=>exact ha.elim
 |row r=>cases x with
  |agg xs=>
   obtain ⟨vs,rfl,J9⟩:=hv
   exact ⟨vs,rfl,OC k.within k.boxes k.st k.T J9 (by simpa only [XP.get] using e)⟩
  |_=>exact ha.elim
 |Hi l=>cases x with
  |Hi xs=>
   obtain ⟨vs,rfl,J9⟩:=hv
   exact ⟨vs,rfl,Tr k J9 ha (by simpa only [XP.get] using e)⟩
  |_=>exact ha.elim
theorem Sv {tm:List XV} {vals:List Value} (bA:Ai (XR E w bx) tm vals): ∀{l:List (Nat×XP)},(∀q∈l,∃x,tm[q.1]? =some x∧Ln N m q.2 x)→ ∀{y:Cd.V l},Cd.get bk tm l=some y→
  GJ E1 w U0 id l y vals
 |[],_,_,_=>trivial
 |(i,p)::l,ha,y,e=>by
  obtain ⟨x,hx,hax⟩:=ha (i,p) (by simp)
  simp only [Cd.get,hx,Option.bind_eq_some_iff,Option.map_eq_some_iff] at e
  obtain ⟨a,e1,b,e2,rfl⟩:=e
  obtain ⟨v,hv,hr⟩:=bA.get hx
  exact ⟨⟨v,hv,c_ k hr hax e1⟩,Sv bA (fun q hq=>ha q (by simp [hq])) e2⟩
end
structure TL (E:Env) (w:World) (bx:List Bx) (m:GI) (s:Cq) (x:s.V) (vals:List Value) (E1:Env):Prop where
 boxes:A6 E1 w (DX.mk id s.CU x.2) (DX.mk id s.CU x.2) []
 Bb:GJ E1 w (DX.mk id s.CU x.2) id s.Bb x.1 vals
 ids: ∀(i b:Nat),m[i]? =some (some b)→E1.C5 i=E.C5 b∧E1.DB i=E.DB b
 inj:RK m
 len:m.length=s.CU.length
 S: ∀c,E.S c→E1.S c
 WM: ∀c,E1.S c→E.S c∨ ¬E.T c
 T: ∀c,E.T c→E1.T c
 rest: ∃Fk,E6 E w bx (Ay bx m) Fk∧Fk.flatten.Nodup∧(∀c∈Fk.flatten,¬E.T c∧ ¬E1.S c∧c<w.heap.size∧E1.T c)∧(∀c,E1.T c→E.T c∨E1.S c∨c∈Fk.flatten)
theorem Ox {E:Env} {w:World} {bx:List Bx} {tm:List XV} {vals:List Value} (hB:A6 E w bx bx []) (bA:Ai (XR E w bx) tm vals) {s:Cq} {m0 m:GI} {x:s.V}
  {N:Nat} (Vo: ∀(i:Nat) d r,s.CU[i]? =some (.sl d r)→E.DB (N+i)= .slice none 0 0) (hlen:m0.length=s.CU.length) (Zo:RK m0) (e:s.fit N m0 tm bx=some (x,m)):Ext m0 m∧ ∃E1,TL E w bx m s x vals E1:=by
 simp only [Cq.fit,Option.bind_eq_some_iff,Option.map_eq_some_iff] at e
 obtain ⟨m1,e1,m2,e2,a,e3,c,e4,e5⟩:=e
 cases e5
 obtain ⟨a1,a2,a3⟩:=Ms e1
 obtain ⟨b1,b2,b4,b3⟩:=JU e2
 have hi:RK m:=b3 (a3 Zo)
 have dp:m.length=s.CU.length:=by rw [b1.1,a1.1,hlen]
 refine ⟨a1.trans b1,?_⟩
 obtain ⟨Gs,g1,g2,g3⟩:=QM hi hB
 obtain ⟨q1,q2⟩:=Hh (ren:=id) e4
 have st:=hB.st
 let R:Nat→List Nat→List Nat→List Nat→Prop:=fun k G F W=>
  match s.CU[k]? with
  |some (.sl d r)=> ∀(b d':Nat) (rows:List r.D),m[k]? =some (some b)→bx[b]? =some (.sl d' r rows)→Ow w (fun c=>E.S c∨c∈W) d (.sl r) [E.DB b] rows F
  |some (.mem q)=>F=G∧W=[]
  |_=>F=[]∧W=G
 have bM: ∀(k:Nat) G,Gs[k]? =some G→ ∃F W,G.Perm (F++W)∧R (0+k) G F W:=by
  intro k G hG
  rw [Nat.zero_add]
  have hk:k<s.CU.length:=by
   have:=(List.getElem?_eq_some_iff.1 hG).1
   omega
  have hp:s.CU[k]? =some s.CU[k]:=List.getElem?_eq_getElem hk
  cases hb:s.CU[k] with
  |mem q=>exact ⟨G,[],by simp,by simp [R,hp,hb]⟩
  |gone=>exact ⟨[],G,by simp,by simp [R,hp,hb]⟩
  |sl d r=>
   obtain ⟨y,y1,b,d',y2,y3,y4,y5⟩:=q2 k _ (hp.trans (by rw [hb]))
   obtain ⟨_,ho⟩:=g2 k b _ G y2 y3 hG
   obtain ⟨F,W,w1,w2⟩:=Dv y5 ho
   refine ⟨F,W,w1,?_⟩
   simp only [R,hp,hb]
   intro b' ml rows h1 h2
   rw [y2] at h1;cases h1
   rw [y3] at h2;cases h2
   exact w2
 obtain ⟨Fs,Ws,f1,f2,f3,f4⟩:=RQ Gs 0 bM
 obtain ⟨Fk,k1,k2⟩:=g3
 simp only [List.append_nil] at k2
 have ZU:Sep E w (Fk.flatten++(Fs.flatten++Ws.flatten)):=k2.perm (List.Perm.append_left _ f3)
 let E1:Env:={
   C5:=fun i=>match m[i]? with|some (some b)=>E.C5 b|_=>0
   DB:=fun i=>match m[i]? with|some (some b)=>E.DB b|_=> .nilFunc
   S:=fun c=>E.S c∨c∈Ws.flatten
   T:=fun c=>E.T c∨c∈Ws.flatten∨c∈Fk.flatten }
 have UR: ∀(i b:Nat),m[i]? =some (some b)→E1.C5 i=E.C5 b∧E1.DB i=E.DB b:=fun i b h=>by simp [E1,h]
 have fe:ZC N E w bx (Ay bx m) Fk m E1 (DX.mk id s.CU c):={
  within:=HV (Bw.refl bx)
  boxes:=k1
  st:=st
  T:=fun d hd=>hd.elim .inl fun h=> .inr (.inr h)
  S:=fun d hd=> .inl hd
  ids:=UR
  len:=by rw [q1,dp];exact Nat.le_refl _
  nil:=fun i d r rows e=>by
   have hk:i<s.CU.length:=by
    have:=(List.getElem?_eq_some_iff.1 e).1
    rwa [q1] at this
   obtain ⟨y,y1,_⟩:=q2 i _ (List.getElem?_eq_getElem hk)
   have hp:=List.getElem?_eq_getElem hk
   rw [e] at y1
   generalize s.CU[i]=P at y y1 hp
   cases P with
   |mem q=>cases y1
   |gone=>cases y1
   |sl d0 r0=>exact Vo i d0 r0 hp
  sl:=fun i d r rows hi e=>by
   have hk:i<s.CU.length:=by omega
   obtain ⟨y,y1,y2⟩:=q2 i _ (List.getElem?_eq_getElem hk)
   rw [e] at y1
   generalize s.CU[i]=P at y y1 y2
   cases P with
   |mem q=>cases y1
   |gone=>cases y1
   |sl d0 r0=>
    simp only [BP.mk,Option.some.injEq,Bx.sl.injEq] at y1
    obtain ⟨rfl,rfl,y1⟩:=y1
    obtain rfl:=eq_of_heq y1
    obtain ⟨b,d',z1,z2,_⟩:=y2
    exact ⟨b,d',z1,z2⟩ }
 have nd:=ZU.nodup
 have X1: ∀c∈Fs.flatten,¬E1.T c:=by
  intro d hd h
  rcases h with h|h|h
  ·exact ZU.free d (by simp [hd]) h
  ·have:=(List.nodup_append.1 (List.nodup_append.1 nd).2.1).2.2 d hd d h
   exact this rfl
  ·have:=(List.nodup_append.1 nd).2.2 d h d (by simp [hd])
   exact this rfl
 have b_:GJ E1 w (DX.mk id s.CU c) id s.Bb a vals:=Sv fe bA (fun q hq=>let ⟨x,h1,h2⟩:=a2 q hq;⟨x,h1,Ln.ext b1 h2⟩) e3
 refine ⟨E1,TL.mk ?_ b_ UR hi dp (fun d hd=> .inl hd) ?_ (fun d hd=> .inl hd) ⟨Fk,k1,(List.nodup_append.1 nd).1,fun d hd=>⟨ZU.free d (by simp [hd]),?_,ZU.lt d (by simp [hd]),.inr (.inr hd)⟩,?_⟩⟩
 ·refine ⟨Fs,⟨by rw [f1,g1,q1,dp],fun k B F hk hF=> ?_⟩,?_⟩
  ·have lB:k<s.CU.length:=by
    have ig:=(List.getElem?_eq_some_iff.1 hk).1
    rw [←q1]
    exact ig
   have hp:s.CU[k]? =some s.CU[k]:=List.getElem?_eq_getElem lB
   obtain ⟨y,y1,y2⟩:=q2 k _ hp
   rw [hk] at y1
   cases y1
   have hG:Gs[k]? =some (Gs[k]'(by omega)):=List.getElem?_eq_getElem _
   have hW:Ws[k]? =some (Ws[k]'(by omega)):=List.getElem?_eq_getElem _
   have hr:=f4 k _ F _ hG hF hW
   rw [Nat.zero_add] at hr
   have eX: ∀d∈Ws[k]'(by omega),d∈Ws.flatten:=fun d hd=>List.mem_flatten.2 ⟨_,List.mem_of_getElem? hW,hd⟩
   generalize lq:s.CU[k]=P at y y2 hp
   have fL:=fun q=>b2 k q
   simp only [R,hp] at hr
   cases P with
   |mem q=>
    obtain ⟨b,cs,z1,z2,z3⟩:=y2
    obtain ⟨rfl,hW0⟩:=hr
    obtain ⟨hFe,arr,ty,fr,h1,h2,h3⟩:=g2 k b _ _ z1 z2 hG
    obtain ⟨b',L6,t1,t2,t3⟩:=fL q hp
    rw [Nat.zero_add,z1] at t1;cases t1
    rw [z2] at t2;cases t2
    refine ⟨by rw [hFe,(UR k b z1).1],arr,ty,fr,by rw [(UR k b z1).1];exact h1,h2,QK fe h3 t3 z3⟩
   |sl d r=>
    obtain ⟨b,d',z1,z2,z3,z4⟩:=y2
    have:=hr b d' y z1 z2
    refine ⟨z3,?_⟩
    rw [(UR k b z1).2]
    exact Bd (fun d hd=>hd.elim .inl fun h=> .inr (eX d h)) (fun _ _=>rfl) (fun _ _=>rfl) this
   |gone=>exact hr.1
  ·simp only [List.append_nil]
   refine ⟨(List.nodup_append.1 (List.nodup_append.1 nd).2.1).1,X1,fun d hd=>ZU.lt d (by simp [hd]),fun d hd=>hd.elim (fun h=> .inl (st d h)) (fun h=> .inr (.inl h)),fun d hd=> ?_⟩
   rcases hd with hd|hd|hd
   ·exact ZU.NM d hd
   ·exact ZU.lt d (by simp [hd])
   ·exact ZU.lt d (by simp [hd])
 ·intro d hd
  exact hd.elim .inl fun h=> .inr (ZU.free d (by simp [h]))
 ·intro h
  rcases h with h|h
  ·exact ZU.free d (by simp [hd]) (st d h)
  ·have:=(List.nodup_append.1 nd).2.2 d hd d (by simp [h])
   exact this rfl
 ·intro d hd
  rcases hd with hd|hd|hd
  ·exact .inl hd
  ·exact .inr (.inl (.inr hd))
  ·exact .inr (.inr hd)
end Go.Fw
end
section
namespace Go.Fw
def zv:Ty→Value
 | .int k=> .int k 0
 | .bool=> .bool false
 | .str=> .string ⟨#[]⟩
 |_=> .slice none 0 0
def CR:Ty→List Value
 | .cons c r=>zv c::CR r
 | .unit=>[]
 |t=>[zv t]
def Ty.cell:Ty→Bool
 | .unit| .cons _ _=>false
 |_=>true
def Ty.Tu:Ty→Bool
 | .cons c r=>c.cell&&r.Tu
 |_=>true
def ib:Value→Value→Bool
 | .int k n,.int k' n' =>decide (k=k')&&decide (n=n')
 | .bool a,.bool b=>decide (a=b)
 | .string a,.string b=>decide (a.data.toList=[])&&decide (b.data.toList=[])
 | .slice none a b,.slice none c d=>decide (a=c)&&decide (b=d)
 |_,_=>false
theorem dG {a b:Value} (h:ib a b=true):a=b:=by
 unfold ib at h
 split at h
 ·simp at h;rw [h.1,h.2]
 ·simp at h;rw [h]
 ·rename_i a b
  simp at h
  obtain ⟨h1,h2⟩:=h
  cases a;cases b
  simp at h1 h2
  subst h1 h2
  rfl
 ·simp at h;rw [h.1,h.2]
 ·cases h
def XZ:List Value→List Value→Bool
 |[],[]=>true
 |a::l,b::m=>ib a b&&XZ l m
 |_,_=>false
theorem WL: ∀{l m:List Value},XZ l m=true→l=m
 |[],[],_=>rfl
 |a::l,b::m,h=>by
  simp only [XZ,Bool.and_eq_true] at h
  rw [dG h.1,WL h.2]
 |[],_::_,h=>by simp [XZ] at h
 |_::_,[],h=>by simp [XZ] at h
def NU (P:Program) (t:Nat):TD→Prop
 | .int k=>P.underlying t=some (.int k)
 | .bool=>P.underlying t=some .bool
 | .str=>P.underlying t=some .string
 | .sl e=>P.underlying t=some (.slice e)
 | .ptr e=>P.underlying t=some (.pointer e)
 | .st fs=> ∃fields,P.underlying t=some (.struct fields)∧fields.toList.map (fun f=>(f.offset,f.type))=fs∧(∀f∈fields.toList,f.name≠ "_" ∧ ∃i,P.info? f.type=some i∧i.size≠0)∧
  P.stoodInHeld t=false∧P.eqGuardType P.depth t=false
 | .other=> ∃d,P.underlying t=some d∧d.isRow=false
structure f7 (P:Program) (T:Dp) (t:Nat) (ti:TI):Prop where
 info: ∃i,P.info? t=some i∧i.size=ti.size∧i.bytes=ti.bytes∧(∀r,ti.row=some r→r.Tu=true∧ ∃z,i.zero=some z∧z.cells.toList=CR r)
 YK:NU P t ti.desc
def B7 (P:Program) (T:Dp):Prop:= ∀t ti,T.get t=some ti→f7 P T t ti
def TW (P:Program) (T:Dp) (t:Nat) (ti:TI):Bool:=
 (match P.info? t with
  |some i=>decide (i.size=ti.size)&&decide (i.bytes=ti.bytes)&&(match ti.row with
   |some r=>r.Tu&&(match i.zero with
    |some z=>XZ z.cells.toList (CR r)
    |none=>false)
   |none=>true)
  |none=>false)&&
 (match ti.desc,P.underlying t with
  | .int k,some (.int k')=>decide (k=k')
  | .bool,some .bool=>true
  | .str,some .string=>true
  | .sl e,some (.slice e')=>decide (e=e')
  | .ptr e,some (.pointer e')=>decide (e=e')
  | .st fs,some (.struct fields)=>decide (fields.toList.map (fun f=>(f.offset,f.type))=fs)&&
    fields.toList.all (fun f=>decide (f.name≠ "_")&&(match P.info? f.type with|some i=>decide (i.size≠0)|none=>false))&&
    !P.stoodInHeld t&& !P.eqGuardType P.depth t
  | .other,some d=> !d.isRow
  |_,_=>false)
theorem Tl {P:Program} {T:Dp} {t:Nat} {ti:TI} (h:TW P T t ti=true):f7 P T t ti:=by
 unfold TW at h
 rw [Bool.and_eq_true] at h
 obtain ⟨h1,h2⟩:=h
 constructor
 ·split at h1
  ·rename_i i hi
   simp only [Bool.and_eq_true,decide_eq_true_eq] at h1
   refine ⟨i,hi,h1.1.1,h1.1.2,fun r hr=> ?_⟩
   obtain ⟨_,h3⟩:=h1
   rw [hr] at h3
   dsimp only at h3
   rw [Bool.and_eq_true] at h3
   obtain ⟨hg,h3⟩:=h3
   refine ⟨hg,?_⟩
   split at h3
   ·rename_i z hz
    exact ⟨z,hz,WL h3⟩
   ·cases h3
  ·cases h1
 ·split at h2
  ·rename_i hd hu;simp only [hd,NU];simp at h2;rw [hu,h2]
  ·rename_i hd hu;simp only [hd,NU];exact hu
  ·rename_i hd hu;simp only [hd,NU];exact hu
  ·rename_i hd hu;simp only [hd,NU];simp at h2;rw [hu,h2]
  ·rename_i hd hu;simp only [hd,NU];simp at h2;rw [hu,h2]
  ·rename_i fs fields hd hu
   simp only [hd,NU]
   simp only [Bool.and_eq_true,decide_eq_true_eq,List.all_eq_true,Bool.not_eq_true'] at h2
   refine ⟨fields,hu,h2.1.1.1,fun f hf=> ?_,h2.1.2,h2.2⟩
   have:=h2.1.1.2 f hf
   refine ⟨this.1,?_⟩
   have h4:=this.2
   split at h4
   ·rename_i i hi
    exact ⟨i,hi,by simpa using h4⟩
   ·cases h4
  ·rename_i d hd hu;simp only [hd,NU]
   exact ⟨d,hu,by simpa using h2⟩
  ·cases h2
def Yk (P:Program) (T:Dp):Bool:=T.all fun q=>TW P T q.1 q.2
theorem Dp.get_mem: ∀{T:Dp} {t:Nat} {ti:TI},T.get t=some ti→(t,ti)∈T
 |(u,i)::l,t,ti,h=>by
  simp only [Dp.get] at h
  split at h
  ·rename_i e;cases h;subst e;simp
  ·exact List.mem_cons_of_mem _ (Dp.get_mem h)
 |[],_,_,h=>by simp [Dp.get] at h
theorem Rh {P:Program} {T:Dp} (h:Yk P T=true):B7 P T:=fun t ti e=>
 Tl (by simpa using List.all_eq_true.1 h (t,ti) (Dp.get_mem e))
section
variable {P:Program} {T:Dp} (hT:B7 P T)
include hT
theorem B7.size {t:Nat} {ti:TI} (e:T.get t=some ti):(P.info? t).map (·.size)=some ti.size:=by
 obtain ⟨i,h1,h2,_⟩:=(hT t ti e).info
 simp [h1,h2]
theorem B7.sizeOf {t:Nat} {ti:TI} (e:T.get t=some ti) (w:World):(Go.sizeOf t).run P w= .ok ti.size w:=by
 obtain ⟨i,h1,h2,_⟩:=(hT t ti e).info
 simp [Go.sizeOf,typeInfo,h1,h2]
omit hT in
theorem AQ {t:Nat} {d:TypeDesc} (h:P.underlying t=some d) (w:World):(Go.underlying t).run P w= .ok d w:=by
 simp [Go.underlying,h]
theorem B7.isAgg {t:Nat} {ti:TI} (e:T.get t=some ti) (w:World):(Go.isAgg t).run P w= .ok ti.desc.agg w:=by
 have hu:=(hT t ti e).YK
 unfold Go.isAgg
 cases hd:ti.desc<;>rw [hd] at hu<;>simp only [NU] at hu
 case st fs=>
  obtain ⟨fields,hu,_⟩:=hu
  simp [AQ hu,TD.agg]
 case other=>
  obtain ⟨d,hu,hd⟩:=hu
  rw [Sem.run_bind,AQ hu]
  cases d<;>simp_all [TypeDesc.isRow,TD.agg]
 all_goals simp [AQ hu,TD.agg]
end
end Go.Fw
end
section
namespace Go.Fw
def EV {Y:Type} (P:Program) (o:Oper) (E:Env) (σ:St) (a:Act) (w:World) (k:K Y) (y:Y):Prop:=
 ∃v w' E' x σ',((execOp a.eval o).run P w= .ok (.value v) w'∨((execOp a.eval o).run P w= .ok .skip w'∧v=undef))∧Rel E' σ' a w'∧XR E' w' σ'.bx x v∧G8 (DM (fun _=>none) σ o.op) E σ.bx w E' σ'.bx w'∧
  σ'.tm.length=σ.tm.length∧k x σ' =some y
section
variable {Y:Type} {P:Program} {T:Dp} {o:Oper} {E:Env} {σ:St} {a:Act} {w:World} {k:K Y} {y:Y}
theorem EV.same (h:Rel E σ a w) {v:Value} {x:XV} (hr:(execOp a.eval o).run P w= .ok (.value v) w) (hx:XR E w σ.bx x v) (hk:k x σ=some y):EV P o E σ a w k y:=
 ⟨v,w,E,x,σ,.inl hr,h,hx,G8.refl _ E σ.bx w,rfl,hk⟩
theorem Lt {vw:List Bx} {κ:IntKind} {n:Int} {v:Value} (h:VR E w vw (.v (.int κ) n) v):v= .int κ n:=by
 have:=h.2
 simpa [Rd] using this
theorem He {vw:List Bx} {b:Bool} {v:Value} (h:VR E w vw (.v .bool b) v):v= .bool b:=by
 have:=h.2
 simpa [Rd] using this
theorem Jd {vw:List Bx} {s:List UInt8} {v:Value} (h:VR E w vw (.v .str s) v):v= .string ⟨s.toArray⟩:=by
 have:=h.2
 simpa [Rd] using this
theorem VR.int {vw:List Bx} (κ:IntKind) (n:Int):VR E w vw (.v (.int κ) n) (.int κ n):=⟨rfl,by simp [Rd]⟩
theorem VR.bool {vw:List Bx} (b:Bool):VR E w vw (.v .bool b) (.bool b):=⟨rfl,by simp [Rd]⟩
theorem VR.str {vw:List Bx} (s:List UInt8):VR E w vw (.v .str s) (.string ⟨s.toArray⟩):=⟨rfl,by simp [Rd]⟩
theorem JS (s:List UInt8):ByteArray.toList ⟨s.toArray⟩=s:=by
 have: ∀(n i:Nat) (r:List UInt8),n=s.length-i→ByteArray.toList.loop ⟨s.toArray⟩ i r=r.reverse++s.drop i:=by
  intro n
  induction n with
  |zero=>
   intro i r hn
   unfold ByteArray.toList.loop
   rw [if_neg (by simp [ByteArray.size];omega),List.drop_of_length_le (by omega)]
   simp
  |succ n ih=>
   intro i r hn
   unfold ByteArray.toList.loop
   have hi:i<s.length:=by omega
   rw [if_pos (by simpa [ByteArray.size] using hi),ih (i+1) _ (by omega)]
   have:(⟨s.toArray⟩:ByteArray).get! i=s[i]:=by
    simp [ByteArray.get!,hi]
   rw [this,List.drop_eq_getElem_cons hi]
   simp
 unfold ByteArray.toList
 rw [this _ 0 [] rfl]
 simp
theorem Tv (a b:List UInt8):(⟨a.toArray⟩:ByteArray)++⟨b.toArray⟩=⟨(a++b).toArray⟩:=by
 apply ByteArray.ext
 simp
theorem UB (op:BinOp) (t:TypeId) (x y:Operand) (u v:Value) (hu: ∀l,u≠ .agg l) (hn:u≠ .nilIface) (w:World):(eqGuard op t x y u v).run P w= .ok () w:=by
 unfold eqGuard
 by_cases h:(op matches .eql| .neq)=true
 ·cases u<;>first
   |(exfalso;exact hn rfl)
   |(exfalso;exact hu _ rfl)
   |(cases v<;>simp [h])
 ·simp [h]
  exact fun hh=>absurd hh h
theorem Uz {op:BinOp} {κ:IntKind} {m n:Int} {k:AV→Option Y} {y:Y} (e:NJ op κ m n k=some y) (t:TypeId) (w:World):
  ∃z v,k z=some y∧(binOp op t (.int κ m) (.int κ n)).run P w= .ok v w∧ ∀E vw,VR E w vw z v:=by
 cases op with
 |add=>exact ⟨_,.int κ (κ.wrap (m+n)),e,by simp [binOp,Op.intArith],fun _ _=>VR.int _ _⟩
 |sub=>exact ⟨_,.int κ (κ.wrap (m-n)),e,by simp [binOp,Op.intArith],fun _ _=>VR.int _ _⟩
 |mul=>exact ⟨_,.int κ (κ.wrap (m*n)),e,by simp [binOp,Op.intArith],fun _ _=>VR.int _ _⟩
 |and=>exact ⟨_,.int κ (κ.wrap (BitVec.ofInt κ.bits m &&& BitVec.ofInt κ.bits n).toNat),e,by simp [binOp,Op.intBits],fun _ _=>VR.int _ _⟩
 |or=>exact ⟨_,.int κ (κ.wrap (BitVec.ofInt κ.bits m ||| BitVec.ofInt κ.bits n).toNat),e,by simp [binOp,Op.intBits],fun _ _=>VR.int _ _⟩
 |xor=>exact ⟨_,.int κ (κ.wrap (BitVec.ofInt κ.bits m ^^^ BitVec.ofInt κ.bits n).toNat),e,by simp [binOp,Op.intBits],fun _ _=>VR.int _ _⟩
 |andNot=>exact ⟨_,.int κ (κ.wrap (BitVec.ofInt κ.bits m &&& ~~~BitVec.ofInt κ.bits n).toNat),e,by simp [binOp,Op.intBits],fun _ _=>VR.int _ _⟩
 |eql=>exact ⟨_,.bool (m==n),e,by simp [binOp,Op.intCmp],fun _ _=>VR.bool _⟩
 |neq=>exact ⟨_,.bool (m !=n),e,by simp [binOp,Op.intCmp],fun _ _=>VR.bool _⟩
 |lss=>exact ⟨_,.bool (decide (m<n)),e,by simp [binOp,Op.intCmp],fun _ _=>VR.bool _⟩
 |leq=>exact ⟨_,.bool (decide (m≤n)),e,by simp [binOp,Op.intCmp],fun _ _=>VR.bool _⟩
 |gtr=>exact ⟨_,.bool (decide (m>n)),e,by simp [binOp,Op.intCmp],fun _ _=>VR.bool _⟩
 |geq=>exact ⟨_,.bool (decide (m≥n)),e,by simp [binOp,Op.intCmp],fun _ _=>VR.bool _⟩
 |quo=>
  simp only [NJ] at e
  split at e
  ·cases e
  ·rename_i hz
   exact ⟨_,.int κ (κ.wrap (m.tdiv n)),e,by simp [binOp,Op.intDiv,hz],fun _ _=>VR.int _ _⟩
 |rem=>
  simp only [NJ] at e
  split at e
  ·cases e
  ·rename_i hz
   exact ⟨_,.int κ (m.tmod n),e,by simp [binOp,Op.intDiv,hz],fun _ _=>VR.int _ _⟩
 |_=>simp [NJ] at e
theorem NH {op:BinOp} {κ κ':IntKind} {m n:Int} {k:AV→Option Y} {y:Y} (e:KH op κ m n k=some y) (t:TypeId) (w:World):
  ∃z v,k z=some y∧(binOp op t (.int κ m) (.int κ' n)).run P w= .ok v w∧ ∀E vw,VR E w vw z v:=by
 unfold KH at e
 split at e
 ·cases e
 ·rename_i hn
  cases op with
  |shl=>exact ⟨_,.int κ (κ.wrap (m*2^min n.toNat κ.bits)),e,by simp [binOp,Op.shift,hn],fun _ _=>VR.int _ _⟩
  |shr=>exact ⟨_,.int κ (m.fdiv (2^min n.toNat κ.bits)),e,by simp [binOp,Op.shift,hn],fun _ _=>VR.int _ _⟩
  |_=>simp at e
theorem UU {op:BinOp} {s u:List UInt8} {k:AV→Option Y} {y:Y} (e:OL op s u k=some y) (t:TypeId) (w:World):
  ∃z v,k z=some y∧(binOp op t (.string ⟨s.toArray⟩) (.string ⟨u.toArray⟩)).run P w= .ok v w∧ ∀E vw,VR E w vw z v:=by
 have h1:=JS s
 have h2:=JS u
 cases op with
 |eql=>exact ⟨_,.bool (s==u),e,by simp [binOp,Op.stringOp,h1,h2],fun _ _=>VR.bool _⟩
 |neq=>exact ⟨_,.bool (!(s==u)),e,by simp [binOp,Op.stringOp,h1,h2],fun _ _=>VR.bool _⟩
 |lss=>exact ⟨_,.bool (Op.bytesLess s u),e,by simp [binOp,Op.stringOp,h1,h2],fun _ _=>VR.bool _⟩
 |leq=>exact ⟨_,.bool (Op.bytesLess s u||s==u),e,by simp [binOp,Op.stringOp,h1,h2],fun _ _=>VR.bool _⟩
 |gtr=>exact ⟨_,.bool (!(Op.bytesLess s u||s==u)),e,by simp [binOp,Op.stringOp,h1,h2],fun _ _=>VR.bool _⟩
 |geq=>exact ⟨_,.bool (!Op.bytesLess s u),e,by simp [binOp,Op.stringOp,h1,h2],fun _ _=>VR.bool _⟩
 |add=>
  simp only [OL] at e
  split at e
  ·rename_i hl
   refine ⟨_,.string ⟨(s++u).toArray⟩,e,?_,fun _ _=>VR.str _⟩
   have hs:(⟨s.toArray⟩:ByteArray).size=s.length:=by simp [ByteArray.size]
   have hu:(⟨u.toArray⟩:ByteArray).size=u.length:=by simp [ByteArray.size]
   have SD: ¬(((⟨s.toArray⟩:ByteArray).size+(⟨u.toArray⟩:ByteArray).size:Nat):Int)>IntKind.i64.max:=by
    rw [hs,hu]
    simp only [I8,IntKind.max,IntKind.signed,IntKind.bits] at hl⊢
    simp
    omega
   simp only [binOp,Op.stringOp,Sem.run_ite,if_neg SD,Tv]
   rfl
  ·cases e
 |_=>simp [OL] at e
theorem Tc {d:TD} {x z:AV} {p:Bool} (e:RL d x z=some p) {E:Env} {w:World} {vw:List Bx} {v u:Value} (hx:VR E w vw x v) (hz:VR E w vw z u) {t:TypeId}
  (hu:NU P t d) (n:Nat):(Op.equalIn (n+1) t v u).run P w= .ok p w∧d.agg=false:=by
 unfold RL at e
 split at e
 ·rename_i κ j a k b
  split at e
  ·rename_i hj
   subst hj
   cases e
   rw [Lt hx,Lt hz]
   exact ⟨run_equalIn_int (P:=P) w n t j κ a b hu,rfl⟩
  ·cases e
 ·cases e
  rw [He hx,He hz]
  exact ⟨run_equalIn_bool' (P:=P) w n t _ _ hu,rfl⟩
 ·cases e
  rename_i a b
  rw [Jd hx,Jd hz]
  have q:=run_equalIn_string (P:=P) w n t ⟨a.toArray⟩ ⟨b.toArray⟩ hu
  rw [JS,JS] at q
  exact ⟨q,rfl⟩
 ·cases e
theorem NG {T:Dp} (hT:B7 P T) {E:Env} {w:World} {vw:List Bx} {xs ys:Array Value}: ∀{fields:List Field} {i:Nat} {l m:List AV} {vs us:List Value} {r:Bool},
  (∀f∈fields,f.name≠ "_")→N1 E w vw l vs→N1 E w vw m us→EE T i (fields.map fun f=>(f.offset,f.type)) l m=some r→
  (∀(j:Nat) v,vs[j]? =some v→xs[i+j]? =some v)→(∀(j:Nat) v,us[j]? =some v→ys[i+j]? =some v)→(Op.eqFields 9999 xs ys fields).run P w= .ok r w
 |[],i,[],[],_,_,r,_,_,_,e,_,_=>by
  simp only [List.map_nil,EE,Option.some.injEq] at e
  subst e
  simp [Op.eqFields]
 |f::fs,i,x::l,z::m,v::vs,u::us,r,hn,hx,hz,e,h1,h2=>by
  simp only [List.map_cons,EE] at e
  split at e
  case isFalse=>cases e
  rename_i ho
  have hv:=h1 0 v rfl
  have hu:=h2 0 u rfl
  simp only [Nat.add_zero] at hv hu
  have eF:=hn f (by simp)
  split at e
  case h_2=>cases e
  rename_i ti HD
  split at e
  case h_2=>cases e
  rename_i p hp
  simp only [Option.map_eq_some_iff] at e
  obtain ⟨r',e',rfl⟩:=e
  have iy:=NG hT (fields:=fs) (i:=i+1) (l:=l) (m:=m) (vs:=vs) (us:=us) (r:=r') (fun f hf=>hn f (by simp [hf])) hx.2 hz.2 e'
   (fun j v' hj=>by have:=h1 (j+1) v' (by simpa using hj);rwa [show i+(j+1)=i+1+j by omega] at this)
   (fun j v' hj=>by have:=h2 (j+1) v' (by simpa using hj);rwa [show i+(j+1)=i+1+j by omega] at this)
  have OO:=(hT f.type ti HD).YK
  obtain ⟨q,na⟩:=Tc (P:=P) hp hx.1 hz.1 (t:=f.type) OO 9998
  have OG:=B7.isAgg hT HD w
  rw [na] at OG
  have p1:(part f.type xs f.offset).run P w= .ok v w:=by simp [part,OG,ho,hv]
  have p2:(part f.type ys f.offset).run P w= .ok u w:=by simp [part,OG,ho,hu]
  simp only [Op.eqFields,eF,ne_eq,not_false_eq_true,if_true,Sem.run_bind,p1,p2,Result.andThen_ok,q,iy,Sem.run_ite,Sem.run_pure]
  cases p<;>simp
 |[],_,_::_,_,_,_,_,_,_,_,e,_,_=>by simp [EE] at e
 |[],_,[],_::_,_,_,_,_,_,_,e,_,_=>by simp [EE] at e
 |_::_,_,[],_,_,_,_,_,_,_,e,_,_=>by simp [EE] at e
 |_::_,_,x::_,[],_,_,_,_,_,_,e,_,_=>by simp [EE] at e
 |_::_,_,_::_,_::_,[],_,_,_,hx,_,_,_,_=>hx.elim
 |_::_,_,_::_,_::_,_::_,[],_,_,_,hz,_,_,_=>hz.elim
theorem Rm (op:BinOp) (t:TypeId) (p q:Bool) (hu:P.underlying t=some .bool) (w:World):(op= .eql→(binOp op t (.bool p) (.bool q)).run P w= .ok (.bool (p==q)) w)∧
  (op= .neq→(binOp op t (.bool p) (.bool q)).run P w= .ok (.bool (!(p==q))) w):=by
 have h:=run_equalIn_bool' (P:=P) w 9999 t p q hu
 constructor
 ·rintro rfl
  simp only [binOp,Op.equal,Op.maxDepth,Sem.run_bind,h,Result.andThen_ok,Sem.run_pure]
 ·rintro rfl
  simp only [binOp,Op.equal,Op.maxDepth,Sem.run_bind,h,Result.andThen_ok,Sem.run_pure]
theorem NY {T:Dp} (hT:B7 P T) {t:Nat} {op:BinOp} {x z:XV} {k:AV→Option Y} {y:Y} (e:Ub T t op x z k=some y) {E:Env} {w:World} {vw:List Bx} {v u:Value}
  (hx:XR E w vw x v) (hz:XR E w vw z u) (ox oz:Operand):
  ∃r val,k r=some y∧(do eqGuard op t ox oz v u;binOp op t v u:Sem Value).run P w= .ok val w∧VR E w vw r val:=by
 have guard: ∀(v u:Value),(∀l,v≠ .agg l)→v≠ .nilIface→ ∀val,(binOp op t v u).run P w= .ok val w→(do eqGuard op t ox oz v u;binOp op t v u:Sem Value).run P w= .ok val w:=by
  intro v u h1 h2 val h
  rw [Sem.run_bind,UB op t ox oz v u h1 h2 w,Result.andThen_ok,h]
 unfold Ub at e
 split at e
 ·rename_i j m j' n
  have hv:=Lt (E:=E) (vw:=vw) hx
  have hu:=Lt (E:=E) (vw:=vw) hz
  subst hv hu
  have done: ∀(q: ∃r val,k r=some y∧(binOp op t (.int j m) (.int j' n)).run P w= .ok val w∧ ∀E vw,VR E w vw r val),∃r val,k r=some y∧(do eqGuard op t ox oz (.int j m) (.int j' n);binOp op t (.int j m) (.int j' n):Sem Value).run P w= .ok val w∧VR E w vw r val:=by
   rintro ⟨r,val,h1,h2,h3⟩
   exact ⟨r,val,h1,guard _ _ (by simp) (by simp) _ h2,h3 _ _⟩
  split at e
  ·exact done (NH e t w)
  ·exact done (NH e t w)
  ·split at e
   ·rename_i hj
    subst hj
    exact done (Uz e t w)
   ·cases e
 ·rename_i s s'
  have hv:=Jd (E:=E) (vw:=vw) hx
  have hu:=Jd (E:=E) (vw:=vw) hz
  subst hv hu
  obtain ⟨r,val,h1,h2,h3⟩:=UU (P:=P) e t w
  exact ⟨r,val,h1,guard _ _ (by simp) (by simp) _ h2,h3 _ _⟩
 ·rename_i p q
  have hv:=He (E:=E) (vw:=vw) hx
  have hu:=He (E:=E) (vw:=vw) hz
  subst hv hu
  split at e
  ·rename_i ti HD
   have OO:=(hT t ti HD).YK
   split at e
   ·rename_i hd
    rw [hd] at OO
    split at e
    ·exact ⟨_,_,e,guard _ _ (by simp) (by simp) _ ((Rm _ t p q OO w).1 rfl),VR.bool _⟩
    ·exact ⟨_,_,e,guard _ _ (by simp) (by simp) _ ((Rm _ t p q OO w).2 rfl),VR.bool _⟩
    ·cases e
   ·cases e
  ·cases e
 ·rename_i l m
  obtain ⟨vs,rfl,J9⟩:=hx
  obtain ⟨us,rfl,hus⟩:=hz
  have key: ∀r,((T.fields t).bind fun fs=>EE T 0 fs l m)=some r→(Op.equalIn 10000 t (.agg vs) (.agg us)).run P w= .ok r w∧P.eqGuardType P.depth t=false:=by
   intro r hr
   simp only [Option.bind_eq_some_iff] at hr
   obtain ⟨fs,hf,hr⟩:=hr
   unfold Dp.fields at hf
   split at hf
   ·rename_i mn hd
    cases hf
    simp only [Option.map_eq_some_iff] at hd
    obtain ⟨ti,HD,hd⟩:=hd
    have OO:=(hT t ti HD).YK
    rw [hd] at OO
    obtain ⟨fields,hu,hfs,bZ,WW,hg⟩:=OO
    have eJ:P.fieldsOf t=fields:=by simp [Program.fieldsOf,hu]
    have q:=run_equalIn_agg (P:=P) w 9999 t vs us (by rw [eJ];exact hu) WW
    rw [eJ] at q
    refine ⟨q.trans ?_,hg⟩
    subst hfs
    exact NG hT (fun f hf=>(bZ f hf).1) J9 hus hr (fun j v hj=>by simpa using hj) (fun j v hj=>by simpa using hj)
   ·cases hf
  split at e
  ·rename_i r hr
   obtain ⟨q,hg⟩:=key r hr
   refine ⟨_,_,e,?_,VR.bool r⟩
   rw [Sem.run_bind,run_eqGuard_agg (P:=P) w _ t ox oz vs us hg,Result.andThen_ok,run_eql_struct (P:=P) w t vs us,q]
   rfl
  ·rename_i r hr
   obtain ⟨q,hg⟩:=key r hr
   refine ⟨_,_,e,?_,VR.bool (!r)⟩
   rw [Sem.run_bind,run_eqGuard_agg (P:=P) w _ t ox oz vs us hg,Result.andThen_ok,run_neq_struct (P:=P) w t vs us,q]
   rfl
  ·cases e
 ·cases e
end
end Go.Fw
end
section
namespace Go.Fw
section
variable {Y:Type} {P:Program} {T:Dp} (hT:B7 P T) {E:Env} {w:World} {vw:List Bx}
include hT
theorem Zk {t:Nat} {s b:Nat} {fs:List nB} {rw:Option Ty} (e:T.get t=some ⟨s,b,.st fs,rw⟩): ∃fields,P.underlying t=some (.struct fields)∧fields.toList.map (fun f=>(f.offset,f.type))=fs∧
  ∀f∈fields.toList,∃i,P.info? f.type=some i∧i.size≠0:=by
 obtain ⟨fields,h1,h2,h3,_⟩:=(hT t _ e).YK
 exact ⟨fields,h1,h2,fun f hf=>(h3 f hf).2⟩
omit hT in
theorem Rp {a:Addr} {f:Field} (h: ∃i,P.info? f.type=some i∧i.size≠0):(fieldPlace a f).run P w= .ok (a.add f.offset) w:=by
 obtain ⟨i,h1,h2⟩:=h
 simp [fieldPlace,Go.sizeOf,typeInfo,h1,h2]
theorem Iq {t:Nat} {s b:Nat} {fs:List nB} {rw:Option Ty} (e:T.get t=some ⟨s,b,.st fs,rw⟩) {f o u:Nat} (hf:fs[f]? =some (o,u)) {a:Addr}:
  (Instr.fieldAt t (.pointer (some a)) f).run P w= .ok (.pointer (some (a.add o))) w:=by
 obtain ⟨fields,h1,h2,h3⟩:=Zk hT e
 subst h2
 simp only [List.getElem?_map,Option.map_eq_some_iff] at hf
 obtain ⟨fld,dW,he⟩:=hf
 have hm:=List.mem_of_getElem? dW
 have gd:fields[f]? =some fld:=by simpa using dW
 simp only [Prod.mk.injEq] at he
 simp [Instr.fieldAt,AQ h1,gd,Instr.sureAddr,Rp (h3 fld hm),he.1]
theorem OW {t:Nat} {x z:XV} {f:Nat} (e:TY T t x f=some z) {v:Value} (hx:XR E w vw x v): ∃u,(Instr.fieldAt t v f).run P w= .ok u w∧XR E w vw z u:=by
 unfold TY at e
 split at e
 case h_2=>cases e
 rename_i s b fs _ HD
 split at e
 case h_2=>cases e
 rename_i o u hf
 split at e
 ·rename_i b' j
  cases e
  obtain ⟨h1,rfl⟩:=hx
  exact ⟨_,Iq hT HD hf,h1,by rw [Addr.add_eq]⟩
 ·rename_i b' p i sz j
  cases e
  obtain ⟨h0,h1⟩:=hx
  cases v with
  |pointer oa=>
   cases oa with
   |none=>simp [L7] at h0
   |some a=>
    obtain ⟨ab,ao,sp⟩:=a
    cases sp with
    |some _=>simp [L7] at h0
    |none=>
     refine ⟨_,Iq hT HD hf,by rw [Addr.add_eq];rfl,?_⟩
     revert h1
     split
     ·rintro ⟨hp,q,ys,bb,o',len,cap,g1,g2,g3,g4⟩
      refine ⟨hp,q,ys,bb,o',len,cap,g1,g2,g3,?_⟩
      simp only [Value.pointer.injEq,Option.some.injEq,Addr.mk.injEq,and_true] at g4
      rw [Addr.add_eq,g4.1,g4.2,Nat.add_assoc]
     ·exact fun h=>h
     ·exact fun h=>h
  |_=>simp [L7] at h0
 ·rename_i s r y j
  cases e
  obtain ⟨bb,o',cs,rfl,h2,h3,h4,h5⟩:=hx
  refine ⟨_,Iq hT HD hf,bb,o',cs,?_,h2,h3,h4,h5⟩
  rw [Addr.add_eq,Nat.add_assoc]
 ·cases e
theorem Pq {t:Nat} {x z:XV} {f:Nat} (e:X9 T t x f=some z) {v:Value} (hx:XR E w vw x v): ∃u,(Instr.field t v f).run P w= .ok u w∧XR E w vw z u:=by
 unfold X9 at e
 split at e
 case h_2=>cases e
 rename_i s b fs _ l HD
 obtain ⟨vs,rfl,J9⟩:=hx
 split at e
 case h_2=>cases e
 rename_i o u hf
 split at e
 case h_2=>cases e
 rename_i ti j5
 obtain ⟨fields,h1,h2,h3⟩:=Zk hT HD
 subst h2
 simp only [List.getElem?_map,Option.map_eq_some_iff] at hf
 obtain ⟨fld,dW,he⟩:=hf
 have gd:fields[f]? =some fld:=by simpa using dW
 simp only [Prod.mk.injEq] at he
 obtain ⟨rfl,rfl⟩:=he
 have OG:=B7.isAgg hT j5 w
 have GN:=B7.sizeOf hT j5 w
 split at e
 ·rename_i ha
  cases e
  rw [ha] at OG
  refine ⟨.agg (vs.extract fld.offset (fld.offset+ti.size)),?_,_,rfl,?_⟩
  ·simp [Instr.field,AQ h1,gd,asAgg,part,OG,GN]
  ·have:(vs.extract fld.offset (fld.offset+ti.size)).toList=(vs.toList.drop fld.offset).take ti.size:=by
    rw [Array.toList_extract,List.extract_eq_take_drop]
    simp
   rw [this]
   exact Ai.take _ (Ai.drop _ J9)
 ·rename_i ha
  simp only [Bool.not_eq_true] at ha
  rw [ha] at OG
  simp only [Option.map_eq_some_iff] at e
  obtain ⟨y,hy,rfl⟩:=e
  obtain ⟨v,hv,hr⟩:=Ai.get J9 hy
  refine ⟨v,?_,hr⟩
  have:vs[fld.offset]? =some v:=by simpa using hv
  simp [Instr.field,AQ h1,gd,asAgg,part,OG,this]
theorem Fe {t:Nat} {r:Ty} (h:T.Hf t r=true): ∃e ti,P.underlying t=some (.slice e)∧T.get e=some ti∧ti.size=r.n∧ti.bytes≤512∧ti.row=some r:=by
 unfold Dp.Hf at h
 split at h
 ·rename_i ti HD
  simp only [Bool.and_eq_true,decide_eq_true_eq] at h
  unfold Dp.elem at HD
  split at HD
  ·rename_i e hd
   simp only [Option.map_eq_some_iff] at hd
   obtain ⟨tj,h1,h2⟩:=hd
   have:=(hT t tj h1).YK
   rw [h2] at this
   exact ⟨e,ti,this,HD,h.1.1,h.1.2,h.2⟩
  ·cases HD
 ·cases h
theorem Jo {t:Nat} (h:T.isStr t=true):P.underlying t=some .string:=by
 unfold Dp.isStr at h
 split at h
 ·rename_i hd
  simp only [Option.map_eq_some_iff] at hd
  obtain ⟨tj,h1,h2⟩:=hd
  have:=(hT t tj h1).YK
  rw [h2] at this
  exact this
 ·cases h
theorem Oy {t:Nat} (h:T.Zj t=true): ∃e,P.underlying t=some (.slice e):=by
 unfold Dp.Zj at h
 split at h
 ·rename_i e hd
  simp only [Option.map_eq_some_iff] at hd
  obtain ⟨tj,h1,h2⟩:=hd
  have:=(hT t tj h1).YK
  rw [h2] at this
  exact ⟨e,this⟩
 ·cases h
omit hT in
theorem DG {x:XV} {n:Int} (e:MY x=some n) {v:Value} (hx:XR E w vw x v): ∃κ,v= .int κ n:=by
 unfold MY at e
 split at e
 ·cases e;exact ⟨_,Lt (E:=E) (w:=w) (vw:=vw) hx⟩
 ·cases e
theorem MZ {t:Nat} {r:Ty} (h:T.Hf t r=true) {κ:IntKind} {i:Int} {a:Addr} {len cap:Nat} (h0:0≤i) (h1:i<(len:Int)):
  (Instr.indexAt t (.slice (some a) len cap) (.int κ i)).run P w= .ok (.pointer (some (a.add (i.toNat*r.n)))) w:=by
 obtain ⟨e,ti,hu,HD,hs,_⟩:=Fe hT h
 have GN:=B7.sizeOf hT HD w
 simp [Instr.indexAt,asIntOf,AQ hu,h0,h1,GN,hs]
omit hT in
theorem Vc {bx:List Bx} {Fs:List mu} (hB:E6 E w bx bx Fs) (st: ∀c,E.S c→E.T c) {x:AV} {v:Value} (hv:VR E w bx x v) {q:Ty} {ys:List q.D} (e:E4 bx x=some ⟨q,ys⟩):
  ∃a cap,v= .slice a ys.length cap∧ys.length≤cap∧(ys.length=0∨ ∃b o,a=some ⟨b,o,none⟩):=by
 have:=K4 (Bw.refl bx) hB st hv e
 simp only [Rd] at this
 obtain ⟨a,cap,h1,h2,h3⟩:=this
 simp only [List.cons.injEq,and_true] at h1
 exact ⟨a,cap,h1,h2,h3.imp id fun ⟨b,o,h,_⟩=>⟨b,o,h⟩⟩
theorem Oc {σ:St} {Fs:List mu} (hB:E6 E w σ.bx σ.bx Fs) (st: ∀c,E.S c→E.T c) {t:Nat} {x i:XV} {k:K Y} {y:Y} (e:O3 σ T t x i k=some y) {v u:Value}
  (hx:XR E w σ.bx x v) (hi:XR E w σ.bx i u): ∃z val,k z σ=some y∧(Instr.indexAt t v u).run P w= .ok val w∧XR E w σ.bx z val:=by
 unfold O3 at e
 split at e
 ·rename_i s r rows n hn
  obtain ⟨κ,rfl⟩:=DG hn hi
  split at e
  case isFalse=>cases e
  rename_i NW
  split at e
  case isFalse=>cases e
  rename_i hb
  obtain ⟨h0,h1⟩:=hb
  simp only [XR,VR,Rd] at hx
  obtain ⟨a,cap,hv,hl,hx⟩:=hx
  simp only [List.cons.injEq,and_true] at hv
  subst hv
  rcases hx with hx|⟨b,o,rfl,hb,hx⟩
  ·omega
  ·have Dw:n.toNat<rows.length:=by omega
   obtain ⟨cs,c1,c2,c3⟩:=hx n.toNat _ (G2 Dw)
   refine ⟨_,_,e,MZ hT NW h0 h1,b,o+n.toNat*r.n,cs,?_,by simpa using hb,c1,c2,by simpa using c3⟩
   rw [Addr.add_eq]
   rfl
 ·rename_i b p n hn
  obtain ⟨κ,rfl⟩:=DG hn hi
  split at e
  case h_2=>cases e
  rename_i q hq
  split at e
  case isFalse=>cases e
  rename_i NW
  split at e
  case isFalse=>cases e
  rename_i hb
  obtain ⟨h0,h1⟩:=hb
  change VR E w σ.bx (.ref b p) v at hx
  obtain ⟨a,cap,rfl,hl,ha⟩:=Vc hB st hx hq
  rcases ha with ha|⟨b',o,rfl⟩
  ·omega
  ·refine ⟨_,_,e,MZ hT NW h0 h1,by rw [Addr.add_eq];rfl,?_⟩
   simp only [E4] at hq
   obtain ⟨_,hx⟩:=hx
   revert hx
   split
   ·rename_i d r rows N4
    rw [N4] at hq
    dsimp only at hq
    rintro ⟨hp,hg,hh⟩
    exact ⟨hp,q.1,q.2,b',o,_,cap,hq,by omega,hh,by rw [Addr.add_eq];rfl⟩
   ·rename_i N4
    intro _
    trivial
   ·exact fun h=>h
 ·rename_i b p off n' n hn
  obtain ⟨κ,rfl⟩:=DG hn hi
  split at e
  case h_2=>cases e
  rename_i q hq
  split at e
  case isFalse=>cases e
  rename_i NW
  split at e
  case isFalse=>cases e
  rename_i hb
  obtain ⟨h0,h1⟩:=hb
  simp only [E4] at hq
  obtain ⟨h00,hx⟩:=hx
  revert hx
  split
  ·rename_i d r rows N4
   rw [N4] at hq
   dsimp only at hq
   rintro ⟨hp,q',ys,a,len,cap,g1,g2,g3,rfl⟩
   have Km:=Ma (Bw.refl _) hB st N4 hp g1 g3
   simp only [Rd] at Km
   obtain ⟨a',cap',ee,hle,Km⟩:=Km
   simp only [List.cons.injEq,Value.slice.injEq,and_true] at ee
   obtain ⟨rfl,rfl,rfl⟩:=ee
   rcases Km with Km|⟨b',o,rfl,_,_⟩
   ·omega
   ·unfold HB
    rw [if_neg (by omega)]
    have gX:q.1=q':=by
     rw [g1] at hq
     simp only [Option.map_some,Option.some.injEq] at hq
     rw [←hq]
    refine ⟨_,_,e,MZ hT NW h0 h1,by simp only [Option.map];rw [Addr.add_eq,Addr.add_eq];rfl,?_⟩
    rw [N4]
    refine ⟨hp,q',ys,b',o,_,cap,g1,by omega,g3,?_⟩
    dsimp only
    rw [Addr.add_eq,Addr.add_eq,gX,Nat.add_assoc,←Nat.add_mul]
    rfl
  ·rename_i B N4 de
   exfalso
   cases B with
   |sl d r rows=>exact N4 d r rows rfl
   |_=>rw [de] at hq;simp at hq
  ·exact fun h=>h.elim
 ·cases e
theorem L2 {σ:St} {t:Nat} {x i:XV} {k:K Y} {y:Y} (e:JY T t σ x i k=some y) {v u:Value} (hx:XR E w vw x v) (hi:XR E w vw i u):
  ∃z val,k z σ=some y∧(Instr.index t v u).run P w= .ok val w∧XR E w vw z val:=by
 unfold JY at e
 split at e
 ·rename_i s n hn
  obtain ⟨κ,rfl⟩:=DG hn hi
  have hv:=Jd (E:=E) (w:=w) (vw:=vw) hx
  subst hv
  split at e
  case isFalse=>cases e
  rename_i WW
  split at e
  case isFalse=>cases e
  rename_i hb
  obtain ⟨h0,h1⟩:=hb
  refine ⟨_,.int .u8 ((s.getD n.toNat 0).toNat:Int),e,?_,VR.int (E:=E) (vw:=vw) _ _⟩
  have Dw:n.toNat<s.length:=by omega
  have:(⟨s.toArray⟩:ByteArray)[n.toNat]? =some s[n.toNat]:=by
   rw [getElem?_pos _ _ (by simpa [ByteArray.size] using Dw)]
   rfl
  simp [Instr.index,asIntOf,AQ (Jo hT WW),h0,this,Dw]
 ·cases e
omit hT in
theorem MI {x z:XV} {i:Nat} (e:Qf x i=some z) {v:Value} (hx:XR E w vw x v): ∃u,(Instr.extract v i).run P w= .ok u w∧XR E w vw z u:=by
 unfold Qf at e
 split at e
 case h_2=>cases e
 rename_i l
 obtain ⟨vs,rfl,J9⟩:=hx
 split at e
 ·rename_i x hx
  cases e
  obtain ⟨v,hv,hr⟩:=J9.get hx
  have:vs[i]? =some v:=by simpa using hv
  exact ⟨v,by simp [Instr.extract,this],hr⟩
 ·rename_i q hx
  cases e
  obtain ⟨v,hv,ws,rfl,hr⟩:=J9.get hx
  have:vs[i]? =some (.agg ws):=by simpa using hv
  exact ⟨.agg ws,by simp [Instr.extract,this],ws,rfl,hr⟩
 ·cases e
omit hT in
theorem Po {bx:List Bx} {Fs:List mu} (hB:E6 E w bx bx Fs) (st: ∀c,E.S c→E.T c) {x:AV} {n:Nat} (e:lenOf bx x=some n) {v:Value} (hx:VR E w bx x v):
  ∃a cap,v= .slice a n cap:=by
 cases x with
 |nil=>simp only [lenOf,Option.some.injEq] at e;subst e;exact ⟨_,_,hx⟩
 |sl s r x=>
  simp only [lenOf,Option.some.injEq] at e
  subst e
  simp only [VR,Rd] at hx
  obtain ⟨a,cap,h,_⟩:=hx
  simp only [List.cons.injEq,and_true] at h
  exact ⟨a,cap,h⟩
 |ref b p=>
  simp only [lenOf] at e
  split at e
  ·rename_i d r rows hb
   simp only [Option.map_eq_some_iff] at e
   obtain ⟨q,hq,rfl⟩:=e
   obtain ⟨a,cap,h,_⟩:=Vc hB st hx (q:=q.1) (ys:=q.2) (by simp only [E4,hb];exact hq)
   exact ⟨a,cap,h⟩
  ·cases e
 |NB b p off m=>
  simp only [lenOf] at e
  split at e
  ·rename_i d r rows hb
   cases e
   simp only [VR,hb] at hx
   obtain ⟨_,_,q,ys,a,len,cap,_,_,_,rfl⟩:=hx
   exact ⟨_,_,rfl⟩
  ·cases e
 |_=>simp [lenOf] at e
omit hT in
theorem IG {big:Bool} {x z:XV} {k:AV→Option Y} {y:Y} (e:Tm big x z k=some y) {v u:Value} (hx:XR E w vw x v) (hz:XR E w vw z u) (t s:Array TypeId) (tt:TypeId):
  ∃r val,k r=some y∧(if big then Builtin.max_ t tt #[v,u] else Builtin.min_ t tt #[v,u]).run P w= .ok val w∧VR E w vw r val:=by
 unfold Tm at e
 split at e
 ·rename_i j m j' n
  have hv:=Lt (E:=E) (w:=w) (vw:=vw) hx
  have hu:=Lt (E:=E) (w:=w) (vw:=vw) hz
  subst hv hu
  split at e
  case isFalse=>cases e
  rename_i hj
  subst hj
  cases big with
  |true=>exact ⟨_,.int j (if n>m then n else m),e,by simp [Builtin.max_,Builtin.max2],VR.int _ _⟩
  |false=>exact ⟨_,.int j (if n<m then n else m),e,by simp [Builtin.min_,Builtin.min2],VR.int _ _⟩
 ·cases e
omit hT in
theorem Ou {op:UnOp} {x:XV} {k:AV→Option Y} {y:Y} (e:aw op x k=some y) {v:Value} (hx:XR E w vw x v):
  ∃r val,k r=some y∧(Op.unary op v).run P w= .ok val w∧VR E w vw r val:=by
 unfold aw at e
 split at e
 ·have hv:=He (E:=E) (w:=w) (vw:=vw) hx
  subst hv
  exact ⟨_,_,e,by simp [Op.unary],VR.bool _⟩
 ·rename_i j n
  have hv:=Lt (E:=E) (w:=w) (vw:=vw) hx
  subst hv
  exact ⟨_,.int j (j.wrap (0-n)),e,by simp [Op.unary,Op.intArith],VR.int _ _⟩
 ·cases e
end
end Go.Fw
end
section
namespace Go.Fw
theorem G6 {a:Ty} (x:a.D):Qx rfl x=x:=rfl
theorem M0 {w:World} {S:Nat→Prop}: ∀{r:Ty} {d j:Nat} {cs:List Value} {x:r.D} {F:mu} {t:Ty} {y:t.D},Ow w S d r cs x F→AR r j x=some ⟨t,y⟩→
  ∃v F1 F2,cs[j]? =some v∧Ow w S d t [v] y F1∧F.Perm (F1++F2)∧
   ∀(w':World) (S':Nat→Prop) (v':Value) (y':t.D) (PX:mu) (x':r.D),(∀b,S b→S' b)→(∀b,S b→w'.heap[b]? =w.heap[b]?)→(∀b∈F2,w'.heap[b]? =w.heap[b]?)→
    Ow w' S' d t [v'] y' PX→BR r j x t y' =some x'→ ∃F',F'.Perm (PX++F2)∧Ow w' S' d r (cs.set j v') x' F'
 | .cons c r,d,0,cs,x,F,t,y,h,e=>by
  simp only [Ow] at h
  obtain ⟨v,l,A,B,rfl,rfl,h1,h2⟩:=h
  simp only [AR,Option.some.injEq,Sigma.mk.injEq] at e
  obtain ⟨rfl,e⟩:=e
  obtain rfl:=eq_of_heq e
  refine ⟨v,A,B,rfl,h1,List.Perm.refl _,fun w' S' v' y' PX x' hS Ru hF ho hx=> ?_⟩
  simp only [BR,dite_true,G6,Option.some.injEq] at hx
  subst hx
  refine ⟨PX++B,List.Perm.refl _,?_⟩
  simp only [Ow,List.set_cons_zero]
  exact ⟨v',l,PX,B,rfl,rfl,ho,Bd hS Ru hF h2⟩
 | .cons c r,d,j+1,cs,x,F,t,y,h,e=>by
  simp only [Ow] at h
  obtain ⟨v,l,A,B,rfl,rfl,h1,h2⟩:=h
  simp only [AR] at e
  obtain ⟨u,F1,F2,k1,k2,k3,k4⟩:=M0 h2 e
  refine ⟨u,F1,A++F2,by simpa using k1,k2,?_,fun w' S' v' y' PX x' hS Ru hF ho hx=> ?_⟩
  ·refine (List.Perm.append_left A k3).trans ?_
   rw [←List.append_assoc,←List.append_assoc]
   exact List.Perm.append_right _ List.perm_append_comm
  ·simp only [BR,Option.map_eq_some_iff] at hx
   obtain ⟨z,hz,rfl⟩:=hx
   obtain ⟨F',p1,p2⟩:=k4 w' S' v' y' PX z hS Ru (fun b hb=>hF b (by simp [hb])) ho hz
   refine ⟨A++F',?_,?_⟩
   ·refine (List.Perm.append_left A p1).trans ?_
    rw [←List.append_assoc,←List.append_assoc]
    exact List.Perm.append_right _ List.perm_append_comm
   ·simp only [Ow,List.set_cons_succ]
    exact ⟨v,_,A,F',rfl,rfl,Bd hS Ru (fun b hb=>hF b (by simp [hb])) h1,p2⟩
 | .int k,d,0,cs,x,F,t,y,h,e=>by
  simp only [AR,Option.some.injEq,Sigma.mk.injEq] at e
  obtain ⟨rfl,e⟩:=e
  obtain rfl:=eq_of_heq e
  have hc:=Kr h
  obtain ⟨v,rfl⟩: ∃v,cs=[v]:=by
   cases cs with
   |nil=>simp [Ty.n] at hc
   |cons a l=>cases l with
    |nil=>exact ⟨a,rfl⟩
    |cons _ _=>simp [Ty.n] at hc
  refine ⟨v,F,[],rfl,h,by simp,fun w' S' v' y' PX x' hS Ru hF ho hx=>⟨PX,by simp,?_⟩⟩
  simp only [BR,dite_true,G6,Option.some.injEq] at hx
  subst hx
  exact ho
 | .bool,d,0,cs,x,F,t,y,h,e=>by
  simp only [AR,Option.some.injEq,Sigma.mk.injEq] at e
  obtain ⟨rfl,e⟩:=e
  obtain rfl:=eq_of_heq e
  have hc:=Kr h
  obtain ⟨v,rfl⟩: ∃v,cs=[v]:=by
   cases cs with
   |nil=>simp [Ty.n] at hc
   |cons a l=>cases l with
    |nil=>exact ⟨a,rfl⟩
    |cons _ _=>simp [Ty.n] at hc
  refine ⟨v,F,[],rfl,h,by simp,fun w' S' v' y' PX x' hS Ru hF ho hx=>⟨PX,by simp,?_⟩⟩
  simp only [BR,dite_true,G6,Option.some.injEq] at hx
  subst hx
  exact ho
 | .str,d,0,cs,x,F,t,y,h,e=>by
  simp only [AR,Option.some.injEq,Sigma.mk.injEq] at e
  obtain ⟨rfl,e⟩:=e
  obtain rfl:=eq_of_heq e
  have hc:=Kr h
  obtain ⟨v,rfl⟩: ∃v,cs=[v]:=by
   cases cs with
   |nil=>simp [Ty.n] at hc
   |cons a l=>cases l with
    |nil=>exact ⟨a,rfl⟩
    |cons _ _=>simp [Ty.n] at hc
  refine ⟨v,F,[],rfl,h,by simp,fun w' S' v' y' PX x' hS Ru hF ho hx=>⟨PX,by simp,?_⟩⟩
  simp only [BR,dite_true,G6,Option.some.injEq] at hx
  subst hx
  exact ho
 | .sl r,d,0,cs,x,F,t,y,h,e=>by
  simp only [AR,Option.some.injEq,Sigma.mk.injEq] at e
  obtain ⟨rfl,e⟩:=e
  obtain rfl:=eq_of_heq e
  have hc:=Kr h
  obtain ⟨v,rfl⟩: ∃v,cs=[v]:=by
   cases cs with
   |nil=>simp [Ty.n] at hc
   |cons a l=>cases l with
    |nil=>exact ⟨a,rfl⟩
    |cons _ _=>simp [Ty.n] at hc
  refine ⟨v,F,[],rfl,h,by simp,fun w' S' v' y' PX x' hS Ru hF ho hx=>⟨PX,by simp,?_⟩⟩
  simp only [BR,dite_true,G6,Option.some.injEq] at hx
  subst hx
  exact ho
 | .unit,_,_,_,_,_,_,_,_,e=>by simp [AR] at e
 | .int _,_,_+1,_,_,_,_,_,_,e=>by simp [AR] at e
 | .bool,_,_+1,_,_,_,_,_,_,e=>by simp [AR] at e
 | .str,_,_+1,_,_,_,_,_,_,e=>by simp [AR] at e
 | .sl _,_,_+1,_,_,_,_,_,_,e=>by simp [AR] at e
theorem O7 {Fs:List mu} {i:Nat} {G G':mu} (h:Fs[i]? =some G):(Fs.set i G').flatten.Perm (G'++(Fs.set i []).flatten):=by
 have Dw:=(List.getElem?_eq_some_iff.1 h).1
 have p1:=Ic (Fs:=Fs.set i G') (b:=i) (F:=G') (List.getElem?_set_self (by omega))
 rw [List.set_set] at p1
 exact p1
theorem Te {w:World} {S:Nat→Prop} {d:Nat} {q:Ty} {a:Option Addr} {len cap:Nat} {ys:List q.D} {F:mu} (h:Ow w S (d+1) (.sl q) [.slice a len cap] ys F) {i:Nat} (hi:i<ys.length):
  ∃b o arr ty fr cs G R,a=some ⟨b,o,none⟩∧w.heap[b]? =some (.cells arr ty fr)∧Vx fr arr.size∧o+i*q.n+q.n≤arr.size∧cs.length=q.n∧An w b (o+i*q.n) cs∧
   Ow w S d q cs (rowAt q ys i) G∧F.Perm (G++(b::R))∧
   ∀(w':World) (S':Nat→Prop) (E_:Array Value) (L6:List Value) (K7:q.D) (G':mu),(∀c,S c→S' c)→(∀c,S c→w'.heap[c]? =w.heap[c]?)→(∀c∈R,w'.heap[c]? =w.heap[c]?)→
    w'.heap[b]? =some (.cells E_ ty fr)→E_.size=arr.size→(∀k,(k<o+i*q.n∨o+i*q.n+q.n≤k)→E_[k]? =arr[k]?)→L6.length=q.n→An w' b (o+i*q.n) L6→
    Ow w' S' d q L6 K7 G'→ ∃F',F'.Perm (G'++(b::R))∧Ow w' S' (d+1) (.sl q) [.slice a len cap] (ys.set i K7) F':=by
 simp only [Ow] at h
 obtain ⟨a',cap',e,hle,h⟩:=h
 simp only [List.cons.injEq,Value.slice.injEq,and_true] at e
 obtain ⟨rfl,rfl,rfl⟩:=e
 rcases h with ⟨h1,_⟩|⟨b,o,arr,ty,fr,Fs,rfl,hb,GN,hu,rfl,hFl,MD⟩
 ·omega
 ·have hG:Fs[i]? =some (Fs[i]'(by omega)):=List.getElem?_eq_getElem _
  generalize Fs[i]'(by omega)=G at hG
  obtain ⟨cs,c1,c2,c3⟩:=MD i _ G (G2 hi) hG
  have hbound:o+i*q.n+q.n≤arr.size:=by
   have:(i+1)*q.n≤cap*q.n:=Nat.mul_le_mul_right _ (by omega)
   rw [Nat.add_mul,Nat.one_mul] at this
   omega
  refine ⟨b,o,arr,ty,fr,cs,G,(Fs.set i []).flatten,rfl,hb,hu,hbound,c1,c2,c3,?_,?_⟩
  ·refine (List.Perm.cons b (Ic hG)).trans ?_
   exact List.perm_middle.symm
  ·intro w' S' E_ L6 K7 G' hS Ru hR VU cb hk V1 dj ho
   refine ⟨b::(Fs.set i G').flatten,?_,?_⟩
   ·refine (List.Perm.cons b (O7 hG)).trans ?_
    exact List.perm_middle.symm
   ·simp only [Ow]
    refine ⟨_,cap,by simp,by simpa using hle,.inr ⟨b,o,E_,ty,fr,Fs.set i G',rfl,VU,by omega,by rw [cb];exact hu,rfl,by simpa using hFl,fun k y H hy hH=> ?_⟩⟩
    by_cases e:k=i
    ·subst e
     rw [List.getElem?_set_self hi] at hy
     rw [List.getElem?_set_self (by omega)] at hH
     cases hy;cases hH
     exact ⟨L6,V1,dj,ho⟩
    ·rw [List.getElem?_set_ne (by omega)] at hy
     rw [List.getElem?_set_ne (by omega)] at hH
     obtain ⟨ds,d1,d2,d3⟩:=MD k y H hy hH
     refine ⟨ds,d1,fun j v hj=> ?_,Bd hS Ru (fun c hc=>hR c (List.mem_flatten.2 ⟨H,List.mem_of_getElem? (by rw [List.getElem?_set_ne (by omega)];exact hH:(Fs.set i [])[k]? =some H),hc⟩)) d3⟩
     have ZN:=(List.getElem?_eq_some_iff.1 hj).1
     have hold:=d2 j v hj
     simp only [World.cell?,hb,Option.isSome_none,Bool.false_eq_true,if_false] at hold
     simp only [World.cell?,VU,Option.isSome_none,Bool.false_eq_true,if_false]
     rw [hk,hold]
     rcases Nat.lt_or_gt_of_ne e with e|e
     ·left
      have:(k+1)*q.n≤i*q.n:=Nat.mul_le_mul_right _ e
      rw [Nat.add_mul,Nat.one_mul] at this
      omega
     ·right
      have:(i+1)*q.n≤k*q.n:=Nat.mul_le_mul_right _ e
      rw [Nat.add_mul,Nat.one_mul] at this
      omega
theorem RT {w:World} {S:Nat→Prop}: ∀{p:List Pd} {d:Nat} {r:Ty} {h:Value} {rows:List r.D} {F:mu} {q:Ty} {ys:List q.D},Ow w S d (.sl r) [h] rows F→BA r rows p→
  Cb r rows p=some ⟨q,ys⟩→p.length<d→ ∃h' F1 F2,Df w h p=some h'∧Ow w S (d-p.length) (.sl q) [h'] ys F1∧F.Perm (F1++F2)∧
   ∀(w':World) (S':Nat→Prop) (Qp:List q.D) (PX:mu) (Av:List r.D),(∀c,S c→S' c)→(∀c,S c→w'.heap[c]? =w.heap[c]?)→(∀c∈F2,w'.heap[c]? =w.heap[c]?)→
    Ow w' S' (d-p.length) (.sl q) [h'] Qp PX→Qe r rows p q Qp=some Av→ ∃F',F'.Perm (PX++F2)∧Ow w' S' d (.sl r) [h] Av F'
 |[],d,r,h,rows,F,q,ys,ho,_,hg,_=>by
  simp only [Cb,Option.some.injEq,Sigma.mk.injEq] at hg
  obtain ⟨rfl,e⟩:=hg
  obtain rfl:=eq_of_heq e
  refine ⟨h,F,[],Aw,ho,by simp,fun w' S' Qp PX Av _ _ _ Xc hs=>⟨PX,by simp,?_⟩⟩
  simp only [Qe,dite_true,G6,Option.some.injEq] at hs
  subst hs
  exact Xc
 |s::p,d,r,h,rows,F,q,ys,ho,hp,hg,hd=>by
  obtain ⟨d,rfl⟩: ∃n,d=n+1:=⟨d-1,by simp at hd;omega⟩
  simp only [BA] at hp
  obtain ⟨hi,GN,hp⟩:=hp
  simp only [Cb] at hg
  obtain ⟨a,len,cap,rfl⟩: ∃a len cap,h= .slice a len cap:=by
   have:=ho
   simp only [Ow] at this
   obtain ⟨a,cap,e,_⟩:=this
   simp only [List.cons.injEq,and_true] at e
   exact ⟨_,_,_,e⟩
  split at hg
  case h_2=>cases hg
  rename_i q' x' MQ
  rw [MQ] at hp
  obtain ⟨b,o,arr,ty,fr,cs,G,R,rfl,hb,hu,hbd,c1,c2,c3,Pk,hback⟩:=Te ho hi
  obtain ⟨v,A1,A2,k1,k2,k3,k4⟩:=M0 c3 MQ
  obtain ⟨h',F1,F2,m1,m2,m3,m4⟩:=RT k2 hp hg (by simp at hd;omega)
  have Yh:d+1-(s::p).length=d-p.length:=by simp
  refine ⟨h',F1,F2++A2++(b::R),?_,by rw [Yh];exact m2,?_,?_⟩
  ·simp only [Df]
   rw [GN,c2 _ _ k1]
   exact m1
  ·refine Pk.trans ?_
   rw [List.append_assoc F2,←List.append_assoc F1]
   refine (List.Perm.append_right _ k3).trans ?_
   rw [←List.append_assoc (F1++F2)]
   exact List.Perm.append_right _ (List.Perm.append_right _ m3)
  ·intro w' S' Qp PX Av hS Ru ga Xc MF
   rw [Yh] at Xc
   simp only [Qe,MQ] at MF
   simp only [Option.bind_eq_some_iff,Option.map_eq_some_iff] at MF
   obtain ⟨x2,hx2,K7,hrow,rfl⟩:=MF
   obtain ⟨B1,p1,p2⟩:=m4 w' S' Qp PX x2 hS Ru (fun c hc=>ga c (by simp [hc])) Xc hx2
   obtain ⟨B2,p3,p4⟩:=k4 w' S' v x2 B1 K7 hS Ru (fun c hc=>ga c (by simp [hc])) p2 hrow
   have aO:cs.set s.j v=cs:=by
    apply List.ext_getElem?
    intro k
    by_cases e:k=s.j
    ·subst e
     rw [List.getElem?_set_self (List.getElem?_eq_some_iff.1 k1).1,k1]
    ·rw [List.getElem?_set_ne (by omega)]
   rw [aO] at p4
   have Z9:=ga b (by simp)
   obtain ⟨F',p5,p6⟩:=hback w' S' arr cs K7 B2 hS Ru (fun c hc=>ga c (by simp [hc])) (Z9.trans hb) rfl (fun _ _=>rfl) c1 (c2.HW Z9) p4
   refine ⟨F',?_,p6⟩
   refine p5.trans ?_
   rw [List.append_assoc F2,←List.append_assoc PX]
   refine (List.Perm.append_right _ p3).trans ?_
   rw [←List.append_assoc (PX++F2)]
   exact List.Perm.append_right _ (List.Perm.append_right _ p1)
end Go.Fw
end
section
namespace Go.Fw
def OR (E:Env) (w:World) (vw:List Bx):Option XV→Option Value→Prop
 |none,none=>True
 |some x,some v=>XR E w vw x v
 |_,_=>False
section
variable {Y:Type} {P:Program} {T:Dp} (hT:B7 P T) {E:Env} {w:World} {vw:List Bx}
theorem run_sliceBound {κ:IntKind} {i:Int} {y:Nat} {code:BoundsCode} (h0:0≤i) (h1:i≤(y:Int)):(Instr.sliceBound (.int κ i) y code).run P w= .ok i.toNat w:=by
 simp [Instr.sliceBound,asIntOf,h0,h1]
theorem IA {len cap:Nat} (hc:len≤cap) {lo hi:Option XV} {k:Nat→Nat→Option Y} {y:Y} (e:FT len lo hi k=some y) {lv hv:Option Value}
  (hl:OR E w vw lo lv) (hh:OR E w vw hi hv) (b:Bool): ∃l h,k l h=some y∧l≤h∧h≤len∧(Instr.sliceBounds b len cap lv hv none).run P w= .ok (l,h,cap) w:=by
 unfold FT at e
 dsimp only at e
 split at e
 case h_2=>cases e
 rename_i l h el eh
 split at e
 case isFalse=>cases e
 rename_i hb
 obtain ⟨b1,b2,b3⟩:=hb
 refine ⟨l.toNat,h.toNat,e,by omega,by omega,?_⟩
 cases hi with
 |none=>cases hv with
  |some _=>exact hh.elim
  |none=>
   simp only [Option.some.injEq] at eh
   subst eh
   cases lo with
   |none=>cases lv with
    |some _=>exact hl.elim
    |none=>
     simp only [Option.some.injEq] at el
     subst el
     simp [Instr.sliceBounds]
   |some x=>cases lv with
    |none=>exact hl.elim
    |some v=>
     obtain ⟨κ,rfl⟩:=DG (E:=E) (w:=w) (vw:=vw) el hl
     simp [Instr.sliceBounds,run_sliceBound (P:=P) (w:=w) (κ:=κ) (i:=l) (y:=len) b1 (by omega)]
 |some x=>cases hv with
  |none=>exact hh.elim
  |some v=>
   obtain ⟨κ,rfl⟩:=DG (E:=E) (w:=w) (vw:=vw) eh hh
   have e1:=fun code=>run_sliceBound (P:=P) (w:=w) (κ:=κ) (i:=h) (y:=cap) (code:=code) (by omega) (by omega)
   cases lo with
   |none=>cases lv with
    |some _=>exact hl.elim
    |none=>
     simp only [Option.some.injEq] at el
     subst el
     simp [Instr.sliceBounds,e1]
   |some x=>cases lv with
    |none=>exact hl.elim
    |some v=>
     obtain ⟨κ',rfl⟩:=DG (E:=E) (w:=w) (vw:=vw) el hl
     have e2:=fun code=>run_sliceBound (P:=P) (w:=w) (κ:=κ') (i:=l) (y:=h.toNat) (code:=code) b1 (by omega)
     simp [Instr.sliceBounds,e1,e2]
theorem SI (s:List UInt8) (l h:Nat):(⟨s.toArray⟩:ByteArray).extract l h=⟨((s.drop l).take (h-l)).toArray⟩:=by
 apply ByteArray.ext
 simp [List.extract_eq_take_drop]
include hT
theorem OM {σ:St} {Fs:List mu} (hB:E6 E w σ.bx σ.bx Fs) (st: ∀c,E.S c→E.T c) {t:Nat} {x:XV} {lo hi:Option XV} {k:K Y} {y:Y} (e:O1 T t σ x lo hi k=some y)
  {v:Value} {lv hv:Option Value} (hx:XR E w σ.bx x v) (hl:OR E w σ.bx lo lv) (hh:OR E w σ.bx hi hv):
  ∃z val,k z σ=some y∧(Instr.sliceAt t v lv hv none).run P w= .ok val w∧XR E w σ.bx z val:=by
 unfold O1 at e
 split at e
 ·rename_i s
  split at e
  case isFalse=>cases e
  rename_i WW
  have hu:=Jo hT WW
  have L8:=Jd (E:=E) (w:=w) (vw:=σ.bx) hx
  subst L8
  obtain ⟨l,h,ek,h1,h2,hr⟩:=IA (P:=P) (cap:=s.length) (Nat.le_refl _) e hl hh false
  refine ⟨_,.string ⟨((s.drop l).take (h-l)).toArray⟩,ek,?_,VR.str (E:=E) (vw:=σ.bx) _⟩
  have hs:(⟨s.toArray⟩:ByteArray).size=s.length:=by simp [ByteArray.size]
  simp [Instr.sliceAt,AQ hu,Instr.slice,hs,hr,SI]
 ·rename_i s r rows
  split at e
  case isFalse=>cases e
  rename_i NW
  obtain ⟨el,ti,hu,HD,hs,_⟩:=Fe hT NW
  have GN:=B7.sizeOf hT HD w
  change VR E w σ.bx (.sl s r rows) v at hx
  have Xg:=hx
  simp only [VR,Rd] at Xg
  obtain ⟨a,cap,L8,hle,_⟩:=Xg
  simp only [List.cons.injEq,and_true] at L8
  subst L8
  obtain ⟨l,h,ek,h1,h2,hr⟩:=IA (P:=P) hle e hl hh true
  refine ⟨_,HB r.n l (h-l) a cap,ek,?_,?_⟩
  ·simp [Instr.sliceAt,AQ hu,Instr.slice,hr,GN,hs,HB]
  ·simp only [XR,VR] at hx⊢
   exact VM hx (by omega)
 ·rename_i b p
  split at e
  case h_2=>cases e
  rename_i q hq
  split at e
  case isFalse=>cases e
  rename_i NW
  obtain ⟨el,ti,hu,HD,hs,_⟩:=Fe hT NW
  have GN:=B7.sizeOf hT HD w
  change VR E w σ.bx (.ref b p) v at hx
  obtain ⟨a,cap,rfl,hle,_⟩:=Vc hB st hx hq
  obtain ⟨l,h,ek,h1,h2,hr⟩:=IA (P:=P) hle e hl hh true
  refine ⟨_,HB q.1.n l (h-l) a cap,ek,?_,?_⟩
  ·simp [Instr.sliceAt,AQ hu,Instr.slice,hr,GN,hs,HB]
  ·simp only [E4] at hq
   obtain ⟨_,hx⟩:=hx
   refine ⟨by simp [HB,isSlice],?_⟩
   revert hx
   split
   ·rename_i d r rows N4
    rw [N4] at hq
    dsimp only at hq
    rintro ⟨hp,hg,hh⟩
    exact ⟨hp,q.1,q.2,a,_,cap,hq,by omega,hh,rfl⟩
   ·exact fun _=>trivial
   ·exact fun h=>h
 ·cases e
omit hT in
theorem Lq {f:Nat→Option AV}: ∀{n j:Nat} {l:List AV},Mi f j n=some l→l.length=n∧ ∀(i:Nat) x,l[i]? =some x→f (j+i)=some x
 |0,j,l,e=>by simp only [Mi,Option.some.injEq] at e;subst e;simp
 |n+1,j,l,e=>by
  simp only [Mi,Option.bind_eq_some_iff,Option.map_eq_some_iff] at e
  obtain ⟨x,hx,l',hl,rfl⟩:=e
  obtain ⟨h1,h2⟩:=Lq hl
  refine ⟨by simp [h1],fun i z hz=> ?_⟩
  cases i with
  |zero=>simp at hz;subst hz;exact hx
  |succ i=>
   have:=h2 i z (by simpa using hz)
   rwa [show j+1+i=j+(i+1) by omega] at this
omit hT in
theorem Jc {B:Nat→Prop} {t:Ty} {x:t.D} {v:Value} (h:Rd w B t [v] x) (hs:t.scalar=true):VR E w vw (.v t x) v:=by
 refine ⟨hs,?_⟩
 cases t<;>first
  |(simpa only [Rd] using h)
  |(simp [Ty.scalar] at hs)
omit hT in
theorem W5 {s:Bool} {t:Ty} {x:t.D} {v:Value} (h:Rd w (if s then E.S else E.T) t [v] x):VR E w vw (U6 s ⟨t,x⟩) v:=by
 cases t with
 |sl r=>simp only [U6,VR];exact h
 |int k=>exact Jc h rfl
 |bool=>exact Jc h rfl
 |str=>exact Jc h rfl
 |unit=>trivial
 |cons c r=>trivial
omit hT in
theorem Pb {s:Pd}: ∀{p:List Pd} {r:Ty} {rows:List r.D} {q:Ty} {ys:List q.D} {t:Ty} {x:List t.D},BA r rows p→Cb r rows p=some ⟨q,ys⟩→s.i<ys.length→s.sz=q.n→
  AR q s.j (rowAt q ys s.i)=some ⟨.sl t,x⟩→BA r rows (p++[s])∧Cb r rows (p++[s])=some ⟨t,x⟩
 |[],r,rows,q,ys,t,x,_,hg,hi,hs,hc=>by
  simp only [Cb,Option.some.injEq,Sigma.mk.injEq] at hg
  obtain ⟨rfl,e⟩:=hg
  obtain rfl:=eq_of_heq e
  refine ⟨?_,?_⟩
  ·simp only [List.nil_append,BA,hc]
   exact ⟨hi,hs,trivial⟩
  ·simp only [List.nil_append,Cb,hc]
 |s'::p,r,rows,q,ys,t,x,hp,hg,hi,hs,hc=>by
  simp only [BA] at hp
  obtain ⟨h1,h2,hp⟩:=hp
  simp only [Cb] at hg
  split at hg
  ·rename_i q' x' MQ
   rw [MQ] at hp
   obtain ⟨a,b⟩:=Pb hp hg hi hs hc
   refine ⟨?_,?_⟩
   ·simp only [List.cons_append,BA,MQ]
    exact ⟨h1,h2,a⟩
   ·simp only [List.cons_append,Cb,MQ]
    exact b
  ·cases hg
omit hT in
theorem Qz {s:Pd}: ∀{p:List Pd} {h:Value} {b o len cap:Nat} {v:Value},Df w h p=some (.slice (some ⟨b,o,none⟩) len cap)→w.cell? ⟨b,o+s.i*s.sz+s.j,none⟩=some v→
  Df w h (p++[s])=some v
 |[],h,b,o,len,cap,v,e,hc=>by
  rw [Aw] at e
  cases e
  simp [Df,hc,Aw]
 |s'::p,h,b,o,len,cap,v,e,hc=>by
  cases h with
  |slice a l c=>
   cases a with
   |none=>simp [Df] at e
   |some a=>
    simp only [Df] at e
    split at e
    ·rename_i h' hh
     simp only [List.cons_append,Df,hh]
     exact Qz e hc
    ·cases e
  |_=>simp [Df] at e
omit hT in
theorem EL {bx:List Bx} {Fs:List mu} (hB:E6 E w bx bx Fs) (st: ∀c,E.S c→E.T c) {x z:AV} {i:Nat} (e:Dh bx x i=some z) {v:Value} (hx:VR E w bx x v):
  ∃b o u,v= .pointer (some ⟨b,o,none⟩)∧w.cell? ⟨b,o+i,none⟩=some u∧VR E w bx z u:=by
 cases x with
 |C2 b j=>
  simp only [Dh] at e
  split at e
  ·rename_i cs hb
   obtain ⟨F,⟨_,arr,ty,fr,ha,hu,hv⟩,_⟩:=hB.get hb
   obtain ⟨u,h1,h2⟩:=Ai.get hv e
   refine ⟨_,_,u,hx.2,?_,h2⟩
   simp only [World.cell?,ha,Option.isSome_none,Bool.false_eq_true,if_false]
   simpa using h1
  ·cases e
 |Di b p r sz j=>
  simp only [Dh] at e
  split at e
  ·rename_i d q rows hb
   split at e
   case isFalse=>cases e
   rename_i hd
   simp only [Option.bind_eq_some_iff] at e
   obtain ⟨⟨q',Qp⟩,hg,e⟩:=e
   split at e
   case isFalse=>cases e
   rename_i GN
   simp only [Option.map_eq_some_iff] at e
   obtain ⟨⟨t,y⟩,hc,rfl⟩:=e
   simp only [VR,hb] at hx
   obtain ⟨_,hp,q1,ys,bb,o,len,cap,g1,g2,g3,rfl⟩:=hx
   rw [hg] at g1
   simp only [Option.some.injEq,Sigma.mk.injEq] at g1
   obtain ⟨rfl,g1⟩:=g1
   obtain rfl:=eq_of_heq g1
   dsimp only at GN hc
   obtain ⟨F,⟨hd1,ho⟩,hF⟩:=hB.get hb
   have Km:=Ma (Bw.refl bx) hB st hb hp hg g3
   have mL:=Km
   simp only [Rd] at Km
   obtain ⟨a',cap',ee,hle,Km⟩:=Km
   simp only [List.cons.injEq,Value.slice.injEq,and_true] at ee
   obtain ⟨rfl,rfl,rfl⟩:=ee
   rcases Km with Km|⟨b1,o1,e7,_,Km⟩
   ·omega
   ·cases e7
    obtain ⟨cs,c1,c2,c3⟩:=Km r _ (G2 g2)
    obtain ⟨u,hu,hur⟩:=Mw c3 hc
    have KU:=c2 _ _ hu
    rw [←GN] at KU
    refine ⟨_,_,u,rfl,by rw [Nat.add_assoc];exact KU,?_⟩
    cases t with
    |sl t' =>
     simp only [WN]
     split
     ·rename_i dk
      obtain ⟨h',F1,F2,m1,m2,_,_⟩:=RT ho hp hg hd
      rw [g3] at m1
      cases m1
      rw [show d-p.length=0+1 by omega] at m2
      obtain ⟨b2,o2,arr,ty,fr,cs2,G,R,e2,_,_,_,_,k2,k3,_,_⟩:=Te m2 g2
      cases e2
      obtain ⟨v2,A1,A2,z1,z2,_,_⟩:=M0 k3 hc
      have Yc:=k2 _ _ z1
      rw [←GN,KU] at Yc
      cases Yc
      simp only [Ow] at z2
      simp only [VR]
      exact z2.1
     ·simp only [VR,hb]
      have:=Pb (s:=⟨r,sz,j+i⟩) hp hg g2 GN hc
      simp only [Rd] at hur
      obtain ⟨a2,cap2,e2,_⟩:=hur
      simp only [List.cons.injEq,and_true] at e2
      refine ⟨by rw [e2];rfl,this.1,⟨_,this.2⟩,Qz g3 KU⟩
    |int k=>exact Jc hur rfl
    |bool=>exact Jc hur rfl
    |str=>exact Jc hur rfl
    |unit=>trivial
    |cons c r=>trivial
  ·cases e
 |FU s r y j=>
  simp only [Dh,Option.map_eq_some_iff] at e
  obtain ⟨⟨t,y'⟩,hc,rfl⟩:=e
  obtain ⟨bb,o,cs,rfl,h2,h3,h4,h5⟩:=hx
  obtain ⟨u,hu,hur⟩:=Mw h5 hc
  refine ⟨_,_,u,rfl,by rw [Nat.add_assoc];exact h4 _ _ hu,W5 hur⟩
 |_=>simp [Dh] at e
omit hT in
theorem MN {bx:List Bx} {Fs:List mu} (hB:E6 E w bx bx Fs) (st: ∀c,E.S c→E.T c) {x:AV} {v:Value} (hx:VR E w bx x v) {b o:Nat} (hv:v= .pointer (some ⟨b,o,none⟩)):
  ∀{l:List AV} {j:Nat},(∀(i:Nat) z,l[i]? =some z→Dh bx x (j+i)=some z)→ ∃cs:List Value,cs.length=l.length∧An w b (o+j) cs∧N1 E w bx l cs
 |[],_,_=>⟨[],rfl,fun _ _ h=>by simp at h,trivial⟩
 |z::l,j,h=>by
  obtain ⟨b',o',u,e1,e2,e3⟩:=EL hB st (h 0 z rfl) hx
  subst hv
  simp only [Value.pointer.injEq,Option.some.injEq,Addr.mk.injEq,and_true] at e1
  obtain ⟨rfl,rfl⟩:=e1
  obtain ⟨cs,c1,c2,c3⟩:=MN hB st hx rfl (l:=l) (j:=j+1) (fun i y hy=>by
   have:=h (i+1) y (by simpa using hy)
   rwa [show j+1+i=j+(i+1) by omega])
  refine ⟨u::cs,by simp [c1],fun i y hy=> ?_,e3,c3⟩
  cases i with
  |zero=>simp at hy;subst hy;exact e2
  |succ i=>
   have:=c2 i y (by simpa using hy)
   rwa [show o+(j+1)+i=o+j+(i+1) by omega] at this
theorem UJ {σ:St} {Fs:List mu} (hB:E6 E w σ.bx σ.bx Fs) (st: ∀c,E.S c→E.T c) {t:Nat} {x z:XV} (e:Pf T t σ x=some z) {v:Value} (hx:XR E w σ.bx x v):
  ∃u,(Instr.loadAt t v).run P w= .ok u w∧XR E w σ.bx z u:=by
 unfold Pf at e
 split at e
 case h_2=>cases e
 rename_i x ti HD
 split at e
 case isTrue=>cases e
 rename_i GN
 have OG:=B7.isAgg hT HD w
 split at e
 ·rename_i ha
  rw [ha] at OG
  simp only [Option.map_eq_some_iff] at e
  obtain ⟨l,hl,rfl⟩:=e
  obtain ⟨h1,h2⟩:=Lq hl
  have h0:0<l.length:=by omega
  obtain ⟨b,o,u,hv,_,_⟩:=EL hB st (h2 0 _ (List.getElem?_eq_getElem h0)) hx
  obtain ⟨cs,c1,c2,c3⟩:=MN hB st hx hv (l:=l) (j:=0) (fun i y hy=>by simpa using h2 i y hy)
  subst hv
  have OO:=(hT t ti HD).YK
  cases hd:ti.desc with
  |st fs=>
   rw [hd] at OO
   obtain ⟨fields,hu,_⟩:=OO
   refine ⟨.agg cs.toArray,run_loadAt_mid w b o t cs _ (by simpa [An,World.rangeAt] using c2) hu rfl ?_,cs.toArray,rfl,by simpa using c3⟩
   rw [B7.size hT HD,c1,h1]
  |_=>rw [hd] at ha;simp [TD.agg] at ha
 ·rename_i ha
  simp only [Bool.not_eq_true] at ha
  rw [ha] at OG
  simp only [Option.map_eq_some_iff] at e
  obtain ⟨y,hy,rfl⟩:=e
  obtain ⟨b,o,u,hv,hc,hr⟩:=EL hB st hy hx
  subst hv
  refine ⟨u,?_,hr⟩
  simp only [Nat.add_zero] at hc
  simp [Instr.loadAt,Instr.sureAddr,loadVar,OG,hc]
end
end Go.Fw
end
section
namespace Go.Fw
theorem Qt {w:World} {S:Nat→Prop} {d:Nat} {q:Ty}:Ow w S d (.sl q) [.slice none 0 0] [] []:=by
 cases d with
 |zero=>simp only [Ow,Rd];exact ⟨⟨none,0,rfl,by simp,.inl rfl⟩,trivial⟩
 |succ d=>simp only [Ow];exact ⟨none,0,rfl,by simp,.inl ⟨rfl,trivial⟩⟩
theorem Yg {w:World} {S:Nat→Prop} {d:Nat} {r:Ty} {a:Option Addr} {len cap:Nat} {ys:List r.D} {F:mu} (h:Ow w S (d+1) (.sl r) [.slice a len cap] ys F) {off n:Nat} (hn:off+n≤ys.length):
  ∃F1 F2,F.Perm (F1++F2)∧Ow w S (d+1) (.sl r) [HB r.n off n a cap] ((ys.drop off).take n) F1:=by
 simp only [Ow] at h⊢
 obtain ⟨a',cap',e,hc,h⟩:=h
 simp only [List.cons.injEq,Value.slice.injEq,and_true] at e
 obtain ⟨rfl,rfl,rfl⟩:=e
 have hl:((ys.drop off).take n).length=n:=by simp;omega
 by_cases h0:cap=off
 ·subst h0
  refine ⟨[],F,by simp,a,0,by simp [HB,hl],by rw [hl];omega,.inl ⟨rfl,rfl⟩⟩
 ·rcases h with ⟨h,rfl⟩|⟨b,o,arr,ty,fr,Fs,rfl,hb,GN,hu,rfl,hFl,hr⟩
  ·refine ⟨[],[],by simp,a.map (·.add (off*r.n)),cap-off,by simp [HB,hl,h0],by rw [hl];omega,.inl ⟨by omega,rfl⟩⟩
  ·have p:Fs.flatten.Perm (((Fs.drop off).take n).flatten++((Fs.take off).flatten++(Fs.drop (off+n)).flatten)):=by
    have e:Fs=Fs.take off++(((Fs.drop off).take n)++Fs.drop (off+n)):=by
     rw [←List.drop_drop,List.take_append_drop,List.take_append_drop]
    conv=>lhs;rw [e]
    rw [List.flatten_append,List.flatten_append,←List.append_assoc,←List.append_assoc]
    exact List.Perm.append_right _ List.perm_append_comm
   refine ⟨b::((Fs.drop off).take n).flatten,(Fs.take off).flatten++(Fs.drop (off+n)).flatten,List.Perm.cons b p,some ⟨b,o+off*r.n,none⟩,cap-off,?_,by rw [hl];omega,.inr ⟨b,o+off*r.n,arr,ty,fr,_,rfl,hb,?_,hu,rfl,?_,?_⟩⟩
   ·simp [HB,h0,hl,Addr.add_eq]
   ·have:off*r.n+(cap-off)*r.n=cap*r.n:=by rw [←Nat.add_mul];congr 1;omega
    omega
   ·rw [hl];simp;omega
   ·intro i y G hy hG
    have hi:=(List.getElem?_eq_some_iff.1 hy).1
    rw [hl] at hi
    rw [List.getElem?_take_of_lt hi,List.getElem?_drop] at hy hG
    obtain ⟨cs,c1,c2,c3⟩:=hr (off+i) y G hy hG
    refine ⟨cs,c1,?_,c3⟩
    rw [Nat.add_mul,←Nat.add_assoc] at c2
    exact c2
theorem Le.GM {E E':Env} (h:Le E E') {w:World} {vw:List Bx} (st: ∀c,E.S c→E.T c):Hj E w vw E' w vw:=
 ⟨Nat.le_refl _,fun b _=>by rw [h.C5],h.T,h.S,st,fun _ _=>rfl,fun b d r rows _ e=>⟨d,rows,e,fun p hp q ys hg=>⟨hp,⟨ys,hg,rfl⟩,fun h' hh=>by rw [h.DB];exact hh⟩⟩⟩
theorem A6.share {E:Env} {w:World} {vw bx:List Bx} {F W G:mu} (h:A6 E w vw bx (F++W++G)):
  let E':Env:={ E with S:=fun c=>E.S c∨c∈W,T:=fun c=>E.T c∨c∈W }
  Le E E'∧A6 E' w vw bx (F++G):=by
 intro E'
 have st:=h.st
 have hle:Le E E':=⟨rfl,rfl,fun c hc=> .inl hc,fun c hc=> .inl hc,fun c hc=>hc.elim .inl fun h' => .inr (.inr h'),fun c hc=>hc.elim .inl fun h' => .inr (h.YG c (by simp [h']))⟩
 refine ⟨hle,?_⟩
 obtain ⟨Fs,⟨h1,h2⟩,h3⟩:=h
 refine ⟨Fs,⟨h1,fun k B F' hk hF=> ?_⟩,?_⟩
 ·have:=h2 k B F' hk hF
  cases B with
  |mem cs=>
   obtain ⟨rfl,arr,ty,fr,a1,a2,a3⟩:=this
   exact ⟨rfl,arr,ty,fr,a1,a2,a3.imp fun _ _ hv=>CS (hle.GM st) hv⟩
  |sl d r rows=>exact ⟨this.1,Bd hle.S (fun _ _=>rfl) (fun _ _=>rfl) this.2⟩
  |dead=>exact this
 ·have h4:Sep E w (W++(Fs.flatten++(F++G))):=h3.perm (by
   rw [List.append_assoc F W G,←List.append_assoc Fs.flatten,←List.append_assoc (Fs.flatten++F),←List.append_assoc Fs.flatten F G,←List.append_assoc W]
   exact List.Perm.append_right _ List.perm_append_comm)
  refine ⟨(List.nodup_append.1 h4.nodup).2.1,fun c hc ht=> ?_,fun c hc=>h4.lt c (by simp only [List.mem_append];exact .inr (by simpa using hc)),fun c hc=>hc.imp (st c) id,fun c hc=>hc.elim (h4.NM c) fun h' =>h4.lt c (by simp [h'])⟩
  rcases ht with ht|ht
  ·exact h4.free c (List.mem_append.2 (.inr hc)) ht
  ·exact (List.nodup_append.1 h4.nodup).2.2 c ht c hc rfl
structure Ch (E:Env) (w:World) (vw bx:List Bx) (G:mu) (E':Env) (Gq:List Bx) (F:mu):Prop where
 le:Le E E'
 len:Gq.length=bx.length
 within: ∀(b:Nat) (B:Bx),Gq[b]? =some B→B= .dead∨bx[b]? =some B
 boxes:A6 E' w vw Gq (F++G)
theorem Ch.refl {E:Env} {w:World} {vw bx:List Bx} {G:mu} (h:A6 E w vw bx G):Ch E w vw bx G E bx []:=
 ⟨Le.refl E,rfl,fun _ _ h=> .inr h,h⟩
theorem Bw.Rb {E E':Env} {w:World} {vw bx Gq:List Bx} {G F:mu} (h:Bw bx vw) (k:Ch E w vw bx G E' Gq F):Bw Gq vw:=fun b B e=>
 (k.within b B e).elim .inl (h b B)
theorem LX {E:Env} {w:World} {vw bx:List Bx} {G:mu} (h:A6 E w vw bx G) (hw:Bw bx vw) {d:Nat} (hd:1≤d) {t:Ty} {x:AV} {v:Value} (hv:VR E w vw x v) {y:t.D} {Gq:List Bx} {d':Nat}
  (e:Mc d t x bx=some (y,Gq,d')):1≤d'∧d'≤d∧ ∃E' F,Ch E w vw bx G E' Gq F∧Ow w E'.S (d'-1) t [v] y F:=by
 unfold Mc at e
 split at e
 ·rename_i u z
  simp only [Option.map_eq_some_iff,Prod.mk.injEq] at e
  obtain ⟨z',e1,rfl,rfl,rfl⟩:=e
  obtain ⟨e2,e3⟩:=C3 e1
  subst e2;subst e3
  refine ⟨hd,Nat.le_refl _,E,[],Ch.refl h,?_⟩
  obtain ⟨hs,hr⟩:=hv
  cases u<;>simp_all [Ty.scalar,Ow,Rd]
 ·split at e
  ·simp only [Option.some.injEq,Prod.mk.injEq] at e
   obtain ⟨rfl,rfl,rfl⟩:=e
   simp only [VR] at hv
   subst hv
   exact ⟨hd,Nat.le_refl _,E,[],Ch.refl h,Qt⟩
  ·cases e
 ·rename_i r z
  split at e
  ·rename_i q
   simp only [Option.map_eq_some_iff,Prod.mk.injEq] at e
   obtain ⟨z',e1,rfl,rfl,rfl⟩:=e
   obtain ⟨e2,e3⟩:=C3 e1
   subst e2;subst e3
   refine ⟨Nat.le_refl _,hd,E,[],Ch.refl h,?_⟩
   simp only [VR] at hv
   simp only [Nat.sub_self,Ow]
   exact ⟨by simpa using hv,trivial⟩
  ·cases e
 ·rename_i b
  split at e
  case h_2=>cases e
  rename_i q
  split at e
  case h_2=>cases e
  rename_i db r z hb
  simp only [Option.map_eq_some_iff,Prod.mk.injEq] at e
  obtain ⟨z',e1,rfl,rfl,rfl⟩:=e
  obtain ⟨e2,e3⟩:=C3 e1
  subst e2;subst e3
  obtain ⟨F0,⟨hd1,ho⟩,hB⟩:=h.take hb
  have mI:v=E.DB b:=by
   simp only [VR,KM hw hb,Aw] at hv
   simpa using hv.2.2.2.symm
  subst mI
  obtain ⟨F1,W,hp,Xc⟩:=Dv (d:=min d (db+1)-1) (by omega) ho
  have Hg:=hB.perm (List.Perm.append_right G hp)
  obtain ⟨hle,Ja⟩:=Hg.share
  refine ⟨by omega,Nat.min_le_left _ _,_,F1,⟨hle,by simp,fun k B hk=> ?_,Ja⟩,Xc⟩
  by_cases ek:k=b
  ·subst ek
   rw [List.getElem?_set_self (List.getElem?_eq_some_iff.1 hb).1] at hk
   cases hk;exact .inl rfl
  ·rw [List.getElem?_set_ne (by omega)] at hk;exact .inr hk
 ·rename_i b off n
  split at e
  case h_2=>cases e
  rename_i q
  split at e
  case h_2=>cases e
  rename_i db r z hb
  simp only [Option.map_eq_some_iff,Prod.mk.injEq] at e
  obtain ⟨z',e1,rfl,rfl,rfl⟩:=e
  obtain ⟨e2,e3⟩:=C3 e1
  subst e2;subst e3
  obtain ⟨F0,⟨hd1,ho⟩,hB⟩:=h.take hb
  simp only [VR,KM hw hb,Aw] at hv
  obtain ⟨_,_,q',ys,a,len,cap,hg,hn,hh,rfl⟩:=hv
  simp only [Cb,Option.some.injEq,Sigma.mk.injEq] at hg
  obtain ⟨rfl,hg⟩:=hg
  obtain rfl:=eq_of_heq hg
  simp only [Option.some.injEq] at hh
  rw [hh] at ho
  obtain ⟨db,rfl⟩: ∃m,db=m+1:=⟨db-1,by omega⟩
  obtain ⟨A1,A2,hp0,i9⟩:=Yg ho hn
  obtain ⟨F1,W,hp,Xc⟩:=Dv (d:=min d (db+1+1)-1) (by omega) i9
  have gO:A6 E w vw (bx.set b .dead) (A1++G):=by
   refine A6.drop (G':=A2) (hB.perm ?_)
   refine (List.Perm.append_right G hp0).trans ?_
   rw [List.append_assoc,List.append_assoc]
   exact List.Perm.append_left _ List.perm_append_comm
  have Hg:=gO.perm (List.Perm.append_right G hp)
  obtain ⟨hle,Ja⟩:=Hg.share
  refine ⟨by omega,Nat.min_le_left _ _,_,F1,⟨hle,by simp,fun k B hk=> ?_,Ja⟩,Xc⟩
  by_cases ek:k=b
  ·subst ek
   rw [List.getElem?_set_self (List.getElem?_eq_some_iff.1 hb).1] at hk
   cases hk;exact .inl rfl
  ·rw [List.getElem?_set_ne (by omega)] at hk;exact .inr hk
 ·cases e
theorem Ko {w:World} {vw:List Bx}: ∀{r:Ty} {E:Env} {bx:List Bx} {G:mu} {d:Nat} {l:List AV} {vs:List Value} {y:r.D} {Gq:List Bx} {d':Nat},A6 E w vw bx G→Bw bx vw→1≤d→
  N1 E w vw l vs→cellsIn d r l bx=some (y,Gq,d')→1≤d'∧d'≤d∧ ∃E' F,Ch E w vw bx G E' Gq F∧Ow w E'.S (d'-1) r vs y F
 | .unit,E,bx,G,d,[],[],y,Gq,d',h,hw,hd,_,e=>by
  simp only [cellsIn,Option.some.injEq,Prod.mk.injEq] at e
  obtain ⟨_,rfl,rfl⟩:=e
  exact ⟨hd,Nat.le_refl _,E,[],Ch.refl h,by simp only [Ow];exact ⟨trivial,trivial⟩⟩
 | .cons c r,E,bx,G,d,x::l,v::vs,y,Gq,d',h,hw,hd,hv,e=>by
  simp only [cellsIn,Option.bind_eq_some_iff,Option.map_eq_some_iff,Prod.mk.injEq] at e
  obtain ⟨⟨y1,Oh,d1⟩,e1,⟨y2,K0,d2⟩,e2,rfl,rfl,rfl⟩:=e
  dsimp only at e2⊢
  obtain ⟨a1,a2,E1,F1,k1,o1⟩:=LX h hw hd hv.1 e1
  have UK:=k1.le.GM (w:=w) (vw:=vw) h.st
  obtain ⟨b1,b2,E2,F2,k2,o2⟩:=Ko (G:=F1++G) k1.boxes (hw.Rb k1) a1 (hv.2.imp fun _ _ h=>CS UK h) e2
  obtain ⟨A,W,hp,o1'⟩:=Dv (d:=d'-1) (by omega) o1
  have hB:=k2.boxes.perm (G':=(F2++A)++W++G) (by
   rw [List.append_assoc F2 A W,List.append_assoc F2]
   exact List.Perm.append_left _ (List.Perm.append_right _ hp))
  obtain ⟨hle,Ja⟩:=hB.share
  refine ⟨b1,Nat.le_trans b2 a2,_,A++F2,⟨(k1.le.trans k2.le).trans hle,k2.len.trans k1.len,fun b B hb=>(k2.within b B hb).elim .inl (k1.within b B),Ja.perm (List.Perm.append_right _ List.perm_append_comm)⟩,?_⟩
  simp only [Ow]
  refine ⟨v,vs,A,F2,rfl,rfl,?_,?_⟩
  ·refine Bd (S:=fun b=>E1.S b∨b∈W) ?_ (fun _ _=>rfl) (fun _ _=>rfl) o1'
   intro c hc
   exact hc.elim (fun h=> .inl (k2.le.S c h)) .inr
  ·refine Bd (S:=E2.S) ?_ (fun _ _=>rfl) (fun _ _=>rfl) o2
   intro c hc
   exact .inl hc
 | .unit,_,_,_,_,_::_,_,_,_,_,_,_,_,_,e=>by simp [cellsIn] at e
 | .unit,_,_,_,_,[],_::_,_,_,_,_,_,_,hv,_=>hv.elim
 | .cons _ _,_,_,_,_,[],_,_,_,_,_,_,_,_,e=>by simp [cellsIn] at e
 | .cons _ _,_,_,_,_,_::_,[],_,_,_,_,_,_,hv,_=>hv.elim
 | .int _,_,_,_,_,_,_,_,_,_,_,_,_,_,e=>by simp [cellsIn] at e
 | .bool,_,_,_,_,_,_,_,_,_,_,_,_,_,e=>by simp [cellsIn] at e
 | .str,_,_,_,_,_,_,_,_,_,_,_,_,_,e=>by simp [cellsIn] at e
 | .sl _,_,_,_,_,_,_,_,_,_,_,_,_,_,e=>by simp [cellsIn] at e
theorem TB {E:Env} {w:World} {vw:List Bx} {x:AV} {v:Value} (h:VR E w vw x v) (hk:x.known=true):v.oneCell' =true∧v.cells= #[v]:=by
 have aux: ∀{v:Value},isSlice v=true→v.oneCell' =true∧v.cells= #[v]:=by intro v h;cases v<;>simp_all [isSlice,Value.oneCell',Value.cells]
 have iO: ∀{v:Value},L7 v=true→v.oneCell' =true∧v.cells= #[v]:=by intro v h;cases v<;>simp_all [L7,Value.oneCell',Value.cells]
 cases x with
 |v t y=>
  obtain ⟨hs,hr⟩:=h
  cases t<;>simp [Ty.scalar] at hs<;>simp only [Rd,List.cons.injEq,and_true] at hr<;>subst hr<;>exact ⟨rfl,rfl⟩
 |sl s r y=>
  simp only [VR,Rd] at h
  obtain ⟨a,cap,h,_⟩:=h
  simp only [List.cons.injEq,and_true] at h
  subst h
  exact ⟨rfl,rfl⟩
 |nil=>simp only [VR] at h;subst h;exact ⟨rfl,rfl⟩
 |ref b p=>exact aux h.1
 |NB b p off n=>exact aux h.1
 |C2 b j=>rw [h.2];exact ⟨rfl,rfl⟩
 |Di b p i sz j=>exact iO h.1
 |FU s r y j=>obtain ⟨bb,o,cs,rfl,_⟩:=h;exact ⟨rfl,rfl⟩
 |fn f Dr=>rw [h.2];exact ⟨rfl,rfl⟩
 |Sj f rows=>obtain ⟨ps,rfl,_⟩:=h;exact ⟨rfl,rfl⟩
 |VX=>simp only [VR] at h;subst h;exact ⟨rfl,rfl⟩
 |undef=>simp [AV.known] at hk
theorem V6 {E:Env} {w:World} {vw:List Bx}: ∀{l:List AV} {vs:List Value},N1 E w vw l vs→l.all AV.known=true→ ∀v∈vs,v.oneCell' =true
 |[],[],_,_=>by simp
 |x::l,v::vs,h,hk=>by
  simp only [List.all_cons,Bool.and_eq_true] at hk
  intro u hu
  rcases List.mem_cons.1 hu with rfl|hu
  ·exact (TB h.1 hk.1).1
  ·exact V6 h.2 hk.2 u hu
theorem Ql {E:Env} {w:World} {vw:List Bx} {x:XV} {v:Value} (h:XR E w vw x v) (hk:x.cells.all AV.known=true) (hn:x.cells≠[]):N1 E w vw x.cells v.cells.toList∧ ∀u∈v.cells.toList,u.oneCell' =true:=by
 cases x with
 |c x=>
  have h':VR E w vw x v:=h
  obtain ⟨h1,h2⟩:=TB h' (by simpa [XV.cells] using hk)
  rw [h2]
  exact ⟨⟨h',trivial⟩,by simpa using h1⟩
 |agg l=>
  obtain ⟨vs,rfl,J9⟩:=h
  exact ⟨J9,V6 J9 hk⟩
 |Hi l=>simp [XV.cells] at hn
theorem Ux {w:World} {vw:List Bx} {r:Ty} {E:Env} {bx:List Bx} {G:mu} {d:Nat} {x:XV} {v:Value} {y:r.D} {Gq:List Bx} {d':Nat} (h:A6 E w vw bx G) (hw:Bw bx vw) (hd:1≤d)
  (hv:XR E w vw x v) (e:Xw d r x bx=some (y,Gq,d')):1≤d'∧d'≤d∧ ∃E' F,Ch E w vw bx G E' Gq F∧Ow w E'.S (d'-1) r v.cells.toList y F:=by
 unfold Xw at e
 split at e
 ·rename_i l
  obtain ⟨vs,rfl,J9⟩:=hv
  exact Ko h hw hd J9 e
 ·rename_i x
  have L8:VR E w vw x v:=hv
  have hk:x.known=true:=by cases x<;>simp_all [AV.known,Mc]
  rw [(TB L8 hk).2]
  exact LX h hw hd L8 e
 ·cases e
end Go.Fw
end
section
namespace Go.Fw
def Env.Lg (E:Env) (n:Nat) (h:Value):Env:={ E with DB:=fun k=>if k=n then h else E.DB k }
def Env.M4 (E:Env) (n b:Nat):Env:={ E with C5:=fun k=>if k=n then b else E.C5 k }
theorem NV {E E1 E':Env} {w w':World} {vw Oh Gq:List Bx} {F:mu} (k:Ch E w vw vw [] E1 Oh F) (st: ∀c,E.S c→E.T c) (hlen:vw.length≤Gq.length)
  (N4: ∀b B,b<vw.length→Gq[b]? =some B→Oh[b]? =some B) (Ts: ∀b,b<vw.length→E'.C5 b=E1.C5 b) (MU: ∀b,b<vw.length→E'.DB b=E1.DB b) (hT:E'.T=E1.T) (hS:E'.S=E1.S)
  (hw: ∀c,c<w.heap.size→c∉F→w'.heap[c]? =w.heap[c]?):Hj E w vw E' w' Gq:=by
 have hB:=k.boxes
 obtain ⟨Fs,⟨h1,h2⟩,h3⟩:=hB
 simp only [List.append_nil] at h3
 have Xl: ∀c,E1.T c→w'.heap[c]? =w.heap[c]?:=fun c hc=>hw c (h3.NM c hc) fun hf=>h3.free c (by simp [hf]) hc
 refine ⟨hlen,fun b hb=>by rw [Ts b hb,k.le.C5],fun c hc=>by rw [hT];exact k.le.T c hc,fun c hc=>by rw [hS];exact k.le.S c hc,st,fun c hc=>Xl c (k.le.T c hc),fun b d r rows hb e=> ?_⟩
 have e1:=N4 b _ hb e
 rcases k.within b _ e1 with e2|e2
 ·cases e2
 ·refine ⟨d,rows,e2,fun p hp q ys hg=>⟨hp,⟨ys,hg,rfl⟩,fun h' hh=> ?_⟩⟩
  have hF:Fs[b]? =some (Fs[b]'(by have:=(List.getElem?_eq_some_iff.1 e1).1;omega)):=List.getElem?_eq_getElem _
  obtain ⟨hd,ho⟩:=h2 b _ _ e1 hF
  rw [MU b hb]
  rw [←k.le.DB] at hh
  refine TH ho (fun c hc=>Xl c (h3.st c hc)) (fun c hc=> ?_) hp hg hh
  have Pn:c∈Fs.flatten:=List.mem_flatten.2 ⟨_,List.mem_of_getElem? hF,hc⟩
  exact hw c (h3.lt c (by simp [Pn])) fun hf=>(List.nodup_append.1 h3.nodup).2.2 c Pn c hf rfl
structure Grown (w w':World):Prop where
 os:w'.os=w.os
 tape:w'.tape=w.tape
 output:w'.output=w.output
 size:w.heap.size≤w'.heap.size
theorem Hy {E E1:Env} {σ:St} {a:Act} {w w':World} {Oh:List Bx} {F F':mu} (h:Rel E σ a w) (k:Ch E w σ.bx σ.bx [] E1 Oh F) {v:Value} {d:Nat} {r:Ty} {rows:List r.D} (hd:1≤d)
  (ho:Ow w' E1.S d (.sl r) [v] rows F') (gS: ∀c∈F',c∈F∨w.heap.size≤c) (nd:F'.Nodup) (Dw: ∀c∈F',c<w'.heap.size) (hw: ∀c,c<w.heap.size→c∉F→w'.heap[c]? =w.heap[c]?) (g:Grown w w'):
  let E':=E1.Lg Oh.length v
  Rel E' { σ with bx:=Oh++[.sl d r rows] } a w'∧G8 [] E σ.bx w E' (Oh++[.sl d r rows]) w'∧XR E' w' (Oh++[.sl d r rows]) (.c (.ref Oh.length [])) v:=by
 intro E'
 have st:=h.bx.st
 have hn:=k.len
 have GM:Hj E w σ.bx E' w' (Oh++[.sl d r rows]):=NV k st (by simp [hn]) (fun b B hb e=>by
   rw [List.getElem?_append_left (by omega)] at e;exact e) (fun b _=>rfl) (fun b hb=>by simp [E',Env.Lg];intro e;omega) rfl rfl hw
 have UK:Hj E1 w σ.bx E' w' (Oh++[.sl d r rows]):=by
  have k':Ch E1 w σ.bx σ.bx [] E1 Oh F:=⟨Le.refl _,k.len,k.within,k.boxes⟩
  exact NV k' k.boxes.st (by simp [hn]) (fun b B hb e=>by
   rw [List.getElem?_append_left (by omega)] at e;exact e) (fun b _=>rfl) (fun b hb=>by simp [E',Env.Lg];intro e;omega) rfl rfl hw
 obtain ⟨Fs,⟨h1,h2⟩,h3⟩:=k.boxes
 simp only [List.append_nil] at h3
 have Xl: ∀c,E1.T c→w'.heap[c]? =w.heap[c]?:=fun c hc=>hw c (h3.NM c hc) fun hf=>h3.free c (by simp [hf]) hc
 have gn: ∀c∈Fs.flatten,w'.heap[c]? =w.heap[c]?:=fun c hc=>hw c (h3.lt c (by simp [hc])) fun hf=>(List.nodup_append.1 h3.nodup).2.2 c hc c hf rfl
 refine ⟨⟨h.FL,h.tm.imp fun _ _ hx=>F5 GM hx,?_⟩,?_,?_⟩
 ·refine ⟨Fs++[F'],⟨by simp [h1],fun n B G hB hG=> ?_⟩,?_⟩
  ·by_cases U4:n<Oh.length
   ·rw [List.getElem?_append_left U4] at hB
    rw [List.getElem?_append_left (by omega)] at hG
    have:=h2 n B G hB hG
    have eQ: ∀c∈G,w'.heap[c]? =w.heap[c]?:=fun c hc=>gn c (List.mem_flatten.2 ⟨G,List.mem_of_getElem? hG,hc⟩)
    cases B with
    |mem cs=>
     obtain ⟨rfl,arr,ty,fr,a1,a2,a3⟩:=this
     exact ⟨rfl,arr,ty,fr,(eQ (E1.C5 n) (by simp)).trans a1,a2,a3.imp fun _ _ hv=>CS UK hv⟩
    |sl d0 r0 Gw=>
     refine ⟨this.1,?_⟩
     have e0:E'.DB n=E1.DB n:=by simp [E',Env.Lg];intro e;omega
     rw [e0]
     exact Bd (fun _ hc=>hc) (fun c hc=>Xl c (h3.st c hc)) eQ this.2
    |dead=>exact this
   ·have de:=(List.getElem?_eq_some_iff.1 hB).1
    simp at de
    obtain rfl:n=Oh.length:=by omega
    rw [List.getElem?_append_right (by omega)] at hB hG
    simp [h1] at hB hG
    subst hB hG
    refine ⟨hd,?_⟩
    have e0:E'.DB Oh.length=v:=by simp [E',Env.Lg]
    rw [e0]
    exact ho
  ·simp only [List.flatten_append,List.flatten_cons,List.flatten_nil,List.append_nil]
   have kA:=List.nodup_append.1 h3.nodup
   refine ⟨List.nodup_append.2 ⟨kA.1,nd,fun x hx y hy e=> ?_⟩,fun c hc ht=> ?_,fun c hc=> ?_,h3.st,fun c hc=>Nat.lt_of_lt_of_le (h3.NM c hc) g.size⟩
   ·subst e
    rcases gS x hy with h|h
    ·exact kA.2.2 x hx x h rfl
    ·have:=h3.lt x (by simp [hx]);omega
   ·rcases List.mem_append.1 hc with hc|hc
    ·exact h3.free c (by simp [hc]) ht
    ·rcases gS c hc with h|h
     ·exact h3.free c (by simp [h]) ht
     ·have:=h3.NM c ht;omega
   ·rcases List.mem_append.1 hc with hc|hc
    ·exact Nat.lt_of_lt_of_le (h3.lt c (by simp [hc])) g.size
    ·exact Dw c hc
 ·refine ⟨⟨k.le.T,k.le.S,k.le.Z4,k.le.WM,fun c hc=>Xl c (k.le.T c hc),g.os,g.tape,g.output,g.size⟩,by simp [hn],fun b hb=>⟨by show E1.C5 b=_;rw [k.le.C5],?_⟩,fun b hb=> ?_,fun n B B' _ hB Hg WA=> ?_⟩
  ·have:E'.DB b=E1.DB b:=by simp [E',Env.Lg];intro e;omega
   rw [this,k.le.DB]
  ·have ZQ:=(List.getElem?_eq_some_iff.1 hb).1
   rw [List.getElem?_append_left (by omega)]
   obtain ⟨B,hB⟩: ∃B,Oh[b]? =some B:=⟨_,List.getElem?_eq_getElem (by omega)⟩
   rcases k.within b B hB with e|e
   ·rw [hB,e]
   ·rw [hb] at e;rw [hB];exact e.symm
  ·have U4:=(List.getElem?_eq_some_iff.1 hB).1
   rw [List.getElem?_append_left (by omega)] at Hg
   rcases k.within n B' Hg with e|e
   ·exact absurd e WA
   rw [hB] at e;cases e
   refine ⟨I4.refl WA,fun c hc=> ?_⟩
   have hF:Fs[n]? =some (Fs[n]'(by have:=(List.getElem?_eq_some_iff.1 Hg).1;omega)):=List.getElem?_eq_getElem _
   have hR:=h2 n B _ Hg hF
   have Mg:U3 E1 w n B c:=by
    cases B with
    |mem cs=>simp only [U3] at hc⊢;rw [k.le.C5];exact hc
    |sl d r rows=>simp only [U3] at hc⊢;rw [k.le.DB];exact hc
    |dead=>exact hc
   rcases Mz hR Mg with hs|hs
   ·exact Xl c (h3.st c hs)
   ·exact gn c (List.mem_flatten.2 ⟨_,List.mem_of_getElem? hF,hs⟩)
 ·have e0:E'.DB Oh.length=v:=by simp [E',Env.Lg]
  refine ⟨?_,?_⟩
  ·have:=LL ho
   simp only [Rd] at this
   obtain ⟨_,_,e,_⟩:=this
   simp only [List.cons.injEq,and_true] at e
   rw [e];rfl
  ·have:(Oh++[Bx.sl d r rows])[Oh.length]? =some (.sl d r rows):=by simp
   rw [this]
   exact ⟨by simp [BA],⟨_,rfl⟩,by rw [e0,Aw]⟩
theorem Rq {E:Env} {σ:St} {a:Act} {w:World} (h:Rel E σ a w) {cs:List AV} {arr:Array Value} (ty:TypeId) (hv:N1 E w σ.bx cs arr.toList):
  let E':=E.M4 σ.bx.length w.heap.size
  let w':=w.alloc (.cells arr ty)
  Rel E' (σ.new (.mem cs)) a w'∧G8 [] E σ.bx w E' (σ.new (.mem cs)).bx w'∧XR E' w' (σ.new (.mem cs)).bx (.c (.C2 σ.bx.length 0)) (.pointer (some ⟨w.heap.size,0,none⟩)):=by
 intro E' w'
 have st:=h.bx.st
 have hw: ∀c,c<w.heap.size→c∉([]:mu)→w'.heap[c]? =w.heap[c]?:=fun c hc _=>by
  show (w.heap.push (.cells arr ty))[c]? =_
  rw [Array.getElem?_push,if_neg (by omega)]
 have d9:=h.bx
 have GM:Hj E w σ.bx E' w' (σ.bx++[.mem cs]):=NV (Ch.refl d9) st (by simp) (fun b B hb e=>by
   rw [List.getElem?_append_left (by omega)] at e;exact e) (fun b hb=>by simp [E',Env.M4];intro e;omega) (fun b _=>rfl) rfl rfl hw
 obtain ⟨Fs,⟨h1,h2⟩,h3⟩:=h.bx
 simp only [List.append_nil] at h3
 have new:w'.heap[w.heap.size]? =some (.cells arr ty):=by
  show (w.heap.push (.cells arr ty))[w.heap.size]? =_
  simp
 refine ⟨⟨h.FL,h.tm.imp fun _ _ hx=>F5 GM hx,?_⟩,?_,?_⟩
 ·refine ⟨Fs++[[w.heap.size]],⟨by simp [St.new,h1],fun n B G hB hG=> ?_⟩,?_⟩
  ·simp only [St.new] at hB
   by_cases U4:n<σ.bx.length
   ·rw [List.getElem?_append_left U4] at hB
    rw [List.getElem?_append_left (by omega)] at hG
    have:=h2 n B G hB hG
    have eQ: ∀c∈G,w'.heap[c]? =w.heap[c]?:=fun c hc=>hw c (h3.lt c (by simp;exact ⟨G,List.mem_of_getElem? hG,hc⟩)) (by simp)
    have eb:E'.C5 n=E.C5 n:=by simp [E',Env.M4];intro e;omega
    cases B with
    |mem cs0=>
     obtain ⟨rfl,arr0,ty0,fr,a1,a2,a3⟩:=this
     refine ⟨by rw [eb],arr0,ty0,fr,?_,a2,a3.imp fun _ _ hv=>CS GM hv⟩
     rw [eb]
     exact (eQ (E.C5 n) (by simp)).trans a1
    |sl d0 r0 Gw=>exact ⟨this.1,Bd (fun _ hc=>hc) (fun c hc=>hw c (h3.NM c (st c hc)) (by simp)) eQ this.2⟩
    |dead=>exact this
   ·have de:=(List.getElem?_eq_some_iff.1 hB).1
    simp at de
    obtain rfl:n=σ.bx.length:=by omega
    rw [List.getElem?_append_right (by omega)] at hB hG
    simp [h1] at hB hG
    subst hB hG
    have eb:E'.C5 σ.bx.length=w.heap.size:=by simp [E',Env.M4]
    refine ⟨by rw [eb],arr,ty,(0,0),by rw [eb];exact new,fun i _ h=>by omega,hv.imp fun _ _ hv=>CS GM hv⟩
  ·simp only [List.flatten_append,List.flatten_cons,List.flatten_nil,List.append_nil]
   refine ⟨List.nodup_append.2 ⟨h3.nodup,by simp,fun x hx y hy e=> ?_⟩,fun c hc ht=> ?_,fun c hc=> ?_,h3.st,fun c hc=> ?_⟩
   ·subst e
    simp at hy
    have:=h3.lt x hx;omega
   ·rcases List.mem_append.1 hc with hc|hc
    ·exact h3.free c hc ht
    ·simp at hc;have:=h3.NM c ht;omega
   ·rcases List.mem_append.1 hc with hc|hc
    ·have:=h3.lt c hc;simp [w'];omega
    ·simp at hc;simp [w'];omega
   ·have:=h3.NM c hc;simp [w'];omega
 ·refine ⟨⟨fun _ h=>h,fun _ h=>h,fun _ h=> .inl h,fun _ h=> .inl h,fun c hc=>hw c (h3.NM c hc) (by simp),rfl,rfl,rfl,by simp [w']⟩,by simp [St.new],fun b hb=>⟨?_,rfl⟩,fun b hb=> ?_,fun n B B' _ hB Hg WA=> ?_⟩
  ·simp [E',Env.M4];intro e;omega
  ·have ZQ:=(List.getElem?_eq_some_iff.1 hb).1
   simp only [St.new]
   rw [List.getElem?_append_left ZQ];exact hb
  ·have U4:=(List.getElem?_eq_some_iff.1 hB).1
   simp only [St.new] at Hg
   rw [List.getElem?_append_left U4,hB] at Hg
   cases Hg
   refine ⟨I4.refl WA,fun c hc=> ?_⟩
   have hF:Fs[n]? =some (Fs[n]'(by omega)):=List.getElem?_eq_getElem _
   rcases Mz (h2 n B _ hB hF) hc with hs|hs
   ·exact hw c (h3.NM c (st c hs)) (by simp)
   ·exact hw c (h3.lt c (List.mem_flatten.2 ⟨_,List.mem_of_getElem? hF,hs⟩)) (by simp)
 ·refine ⟨by simp [St.new],?_⟩
  simp [E',Env.M4]
end Go.Fw
end
section
namespace Go.Fw
theorem Dx: ∀r:Ty,(CR r).length=r.n
 | .cons c r=>by simp [CR,Ty.n,Dx r]
 | .unit=>rfl
 | .int _=>rfl
 | .bool=>rfl
 | .str=>rfl
 | .sl _=>rfl
theorem K9 {E:Env} {w:World} {vw:List Bx} (t:Ty):VR E w vw (VF t) (zv t):=by
 cases t<;>first
  |exact VR.int _ _
  |exact VR.bool _
  |exact VR.str _
  |rfl
  |trivial
theorem Kl {E:Env} {w:World} {vw:List Bx}: ∀r:Ty,N1 E w vw (LR r) (CR r)
 | .cons c r=>⟨K9 c,Kl r⟩
 | .unit=>trivial
 | .int k=>⟨K9 (.int k),trivial⟩
 | .bool=>⟨K9 .bool,trivial⟩
 | .str=>⟨K9 .str,trivial⟩
 | .sl r=>⟨K9 (.sl r),trivial⟩
theorem QI {w:World} {S:Nat→Prop} {d:Nat}: ∀{r:Ty},r.Tu=true→Ow w S d r (CR r) r.z []
 | .cons c r,h=>by
  simp only [Ty.Tu,Bool.and_eq_true] at h
  simp only [Ow,CR]
  refine ⟨_,_,[],[],rfl,rfl,?_,QI h.2⟩
  cases c with
  |sl q=>exact Qt
  |int k=>simp [Ow,zv,Ty.z]
  |bool=>simp [Ow,zv,Ty.z]
  |str=>simp [Ow,zv,Ty.z]
  |unit=>simp [Ty.cell] at h
  |cons _ _=>simp [Ty.cell] at h
 | .unit,_=>by simp [Ow,CR]
 | .int k,_=>by simp [Ow,CR,zv,Ty.z]
 | .bool,_=>by simp [Ow,CR,zv,Ty.z]
 | .str,_=>by simp [Ow,CR,zv,Ty.z]
 | .sl q,_=>Qt
theorem Mq {n:Nat}: ∀{css:List (List Value)} {ex:List Value} {i j:Nat} {cs:List Value},(∀c∈css,c.length=n)→css[i]? =some cs→j<n→(css.flatten++ex)[i*n+j]? =cs[j]?
 |[],_,_,_,_,_,h,_=>by simp at h
 |c::css,ex,0,j,cs,hl,h,hj=>by
  simp at h;subst h
  have:=hl c (by simp)
  simp only [List.flatten_cons,List.append_assoc,Nat.zero_mul,Nat.zero_add]
  rw [List.getElem?_append_left (by omega)]
 |c::css,ex,i+1,j,cs,hl,h,hj=>by
  have hc:=hl c (by simp)
  have ih:=Mq (css:=css) (ex:=ex) (i:=i) (j:=j) (cs:=cs) (fun c' Mg=>hl c' (List.mem_cons_of_mem _ Mg)) (by simpa using h) hj
  simp only [List.flatten_cons,List.append_assoc]
  rw [List.getElem?_append_right (by rw [Nat.add_mul];omega),←ih]
  congr 1
  rw [Nat.add_mul,hc];omega
theorem P4 {w:World} {b:Nat} {arr:Array Value} {ty:TypeId} {fr:nB} (hb:w.heap[b]? =some (.cells arr ty fr)) {n:Nat} {css:List (List Value)} {ex:List Value} (ha:arr.toList=css.flatten++ex)
  (hl: ∀c∈css,c.length=n) {i:Nat} {cs:List Value} (h:css[i]? =some cs):An w b (i*n) cs:=by
 intro j v hj
 have k9:j<n:=by
  have:=(List.getElem?_eq_some_iff.1 hj).1
  rw [hl cs (List.mem_of_getElem? h)] at this
  exact this
 simp only [World.cell?,hb,Option.isSome_none,Bool.false_eq_true,if_false]
 rw [←Array.getElem?_toList,ha,Mq hl h k9,hj]
theorem N6 {w:World} {S:Nat→Prop} {d b cap:Nat} {r:Ty} {rows:List r.D} {arr:Array Value} {ty:TypeId} {fr:nB} (hb:w.heap[b]? =some (.cells arr ty fr)) {css:List (List Value)} {ex:List Value}
  (ha:arr.toList=css.flatten++ex) (hc:css.length=rows.length) (ZB:rows.length≤cap) (GN:cap*r.n≤arr.size) (hu:Vx fr arr.size) {Fs:List mu} (hF:Fs.length=rows.length)
  (MD: ∀(i:Nat) cs y G,css[i]? =some cs→rows[i]? =some y→Fs[i]? =some G→Ow w S d r cs y G):
  Ow w S (d+1) (.sl r) [.slice (some ⟨b,0,none⟩) rows.length cap] rows (b::Fs.flatten):=by
 have hl: ∀c∈css,c.length=r.n:=by
  intro c Mg
  obtain ⟨i,hi,rfl⟩:=List.getElem_of_mem Mg
  exact Kr (MD i _ _ _ (List.getElem?_eq_getElem hi) (List.getElem?_eq_getElem (by omega)) (List.getElem?_eq_getElem (by omega)))
 simp only [Ow]
 refine ⟨_,cap,rfl,ZB,.inr ⟨b,0,arr,ty,fr,Fs,rfl,hb,by omega,hu,rfl,hF,fun i y G hy hG=> ?_⟩⟩
 have hi:i<css.length:=by
  have:=(List.getElem?_eq_some_iff.1 hy).1
  omega
 refine ⟨css[i],hl _ (List.getElem_mem hi),?_,MD i _ y G (List.getElem?_eq_getElem hi) hy hG⟩
 rw [Nat.zero_add]
 exact P4 hb ha hl (List.getElem?_eq_getElem hi)
theorem O6 (n:Nat):Vx (0,0) n:=fun i _ h=>by omega
theorem GP {w:World} {o:Obj} {c:Nat} (h:c<w.heap.size):(w.heap.push o)[c]? =w.heap[c]?:=by
 rw [Array.getElem?_push,if_neg (by omega)]
section
variable {Y:Type} {P:Program} {T:Dp} (hT:B7 P T) {o:Oper} {E:Env} {σ:St} {a:Act} {w:World} {k:K Y} {y:Y}
theorem ZE (h:Rel E σ a w) {t:TypeId} {x:Operand} (ho:o.op= .box t x) (hk:(σ.ev x).cells.all AV.known=true) (hn:(σ.ev x).cells≠[]) (e:k (.c (.C2 σ.bx.length 0)) (σ.new (.mem (σ.ev x).cells))=some y):
  EV P o E σ a w k y:=by
 obtain ⟨h1,h2⟩:=Ql (h.ev x) hk hn
 obtain ⟨r1,r2,r3⟩:=Rq h t h1
 refine ⟨_,_,_,_,_,.inl ?_,r1,r3,r2.any,rfl,e⟩
 simp only [execOp,ho,Instr.box,newVar,newRow,Sem.run_bind,run_newObj,Result.andThen_ok,Sem.run_pure]
 rfl
include hT
theorem QZ {t:Nat} {r:Ty} (e:T.On t=some r): ∃i z,P.info? t=some i∧i.zero=some z∧z.cells.toList=CR r∧r.Tu=true:=by
 unfold Dp.On at e
 split at e
 ·rename_i ti HD
  obtain ⟨i,h1,_,_,h2⟩:=(hT t ti HD).info
  obtain ⟨hg,z,h3,h4⟩:=h2 r e
  exact ⟨i,z,h1,h3,h4,hg⟩
 ·cases e
theorem U9 (h:Rel E σ a w) {t:TypeId} (ho:o.op= .alloc t) {r:Ty} (hr:T.On t=some r) (e:k (.c (.C2 σ.bx.length 0)) (σ.new (.mem (LR r)))=some y):EV P o E σ a w k y:=by
 obtain ⟨i,z,h1,h2,h3,_⟩:=QZ hT hr
 obtain ⟨r1,r2,r3⟩:=Rq (arr:=z.cells) h t (by rw [h3];exact Kl r)
 refine ⟨_,_,_,_,_,.inl ?_,r1,r3,r2.any,rfl,e⟩
 simp only [execOp,ho,Instr.alloc,zeroValue,typeInfo,newVar,newRow,Sem.run_bind,run_program,Result.andThen_ok,h1,h2,run_newObj,Sem.run_pure]
 rfl
end
end Go.Fw
end
section
namespace Go.Fw
def CL (arr:Array Value):Nat→List Value→Array Value
 |_,[]=>arr
 |o,c::l=>CL (arr.setIfInBounds o c) (o+1) l
theorem EB: ∀(l:List Value) (o:Nat) (arr:Array Value),(CL arr o l).size=arr.size
 |[],_,_=>rfl
 |c::l,o,arr=>by simp [CL,EB l]
theorem Qo (off:Nat): ∀(l:List Value) (k:Nat) (arr:Array Value),(l.zipIdx k).foldl (fun cs (q:Value×Nat)=>cs.setIfInBounds (off+q.2) q.1) arr=CL arr (off+k) l
 |[],_,_=>rfl
 |c::l,k,arr=>by
  simp only [List.zipIdx_cons,List.foldl_cons,CL]
  rw [Qo off l (k+1)]
  rfl
theorem J0 {E:Env} {w:World} {vw:List Bx}: ∀{xs:List AV} {vs:List Value} {cs L6:List AV} {arr:Array Value} {o:Nat},N1 E w vw cs arr.toList→N1 E w vw xs vs→Jh cs o xs=some L6→
  N1 E w vw L6 (CL arr o vs).toList∧o+xs.length≤cs.length∨(xs=[]∧L6=cs)
 |[],[],cs,L6,arr,o,h,_,e=>by simp only [Jh,Option.some.injEq] at e;exact .inr ⟨rfl,e.symm⟩
 |x::xs,v::vs,cs,L6,arr,o,h,hx,e=>by
  simp only [Jh] at e
  split at e
  case isFalse=>cases e
  rename_i ho
  have h1:N1 E w vw (cs.set o x) (arr.setIfInBounds o v).toList:=by
   rw [Array.toList_setIfInBounds]
   exact Ai.set h hx.1
  rcases J0 h1 hx.2 e with ⟨h2,h3⟩|⟨rfl,rfl⟩
  ·refine .inl ⟨h2,?_⟩
   simp at h3⊢;omega
  ·cases vs with
   |nil=>exact .inl ⟨h1,by simp;omega⟩
   |cons _ _=>exact hx.2.elim
 |[],_::_,_,_,_,_,_,hx,_=>hx.elim
 |_::_,[],_,_,_,_,_,hx,_=>hx.elim
section
variable {Y:Type} {P:Program} {T:Dp} (hT:B7 P T) {o:Oper} {E:Env} {σ:St} {a:Act} {w:World} {k:K Y} {y:Y}
def U_ (E:Env) (w:World) (vw:List Bx) (l:List (Nat×XV)) (m:List (Nat×Value)):Prop:=Ai (fun x v=>x.1=v.1∧XR E w vw x.2 v.2) l m
theorem Rl (h:Rel E σ a w) (ps:Array (Nat×Operand)):U_ E w σ.bx (ps.toList.map fun q=>(q.1,σ.ev q.2)) (ps.map fun (i,x)=>(i,a.eval x)).toList:=by
 rw [Array.toList_map]
 generalize ps.toList=l
 induction l with
 |nil=>trivial
 |cons q l ih=>exact ⟨⟨rfl,h.ev q.2⟩,ih⟩
theorem Se {place:Nat→Option nB} {i off size:Nat} (hp:place i=some (off,size)) {cells:Array Value} {v:Value} {rest:List (Nat×Value)} (h1:v.cells.size=size) (h2:off+v.cells.size≤cells.size):
  Instr.fill place cells ((i,v)::rest)=Instr.fill place (CL cells off v.cells.toList) rest:=by
 have e:v.cells.zipIdx.foldl (fun cs (q:Value×Nat)=>cs.setIfInBounds (off+q.2) q.1) cells=CL cells off v.cells.toList:=by
  rw [←Array.foldl_toList]
  have:(v.cells.zipIdx).toList=v.cells.toList.zipIdx:=by simp
  rw [this]
  exact Qo off v.cells.toList 0 cells
 conv=>lhs;unfold Instr.fill
 simp only [hp]
 rw [if_neg (by simp;omega)]
 exact congrArg (fun c=>Instr.fill place c rest) e
theorem QV {α β:Type} {f:α→Option β} {g:α→β}: ∀{l:List α},(∀x∈l,f x=some (g x))→l.mapM f=some (l.map g)
 |[],_=>rfl
 |x::l,h=>by
  simp only [List.mapM_cons,h x (by simp),QV (l:=l) (g:=g) (fun y hy=>h y (by simp [hy]))]
  rfl
include hT
theorem Lf {fs:List nB} {vw:List Bx}: ∀{parts:List (Nat×XV)} {vals:List (Nat×Value)} {cs L6:List AV} {arr:Array Value},U_ E w vw parts vals→N1 E w vw cs arr.toList→Nl T fs cs parts=some L6→
  ∃E_:Array Value,Instr.fill (fun i=>(fs[i]?).bind fun q=>((P.info? q.2).map fun i=>(q.1,i.size))) arr vals=some E_∧N1 E w vw L6 E_.toList
 |[],[],cs,L6,arr,_,h,e=>by
  simp only [Nl,Option.some.injEq] at e
  subst e
  exact ⟨arr,rfl,h⟩
 |(i,x)::ps,(j,v)::vs,cs,L6,arr,hp,h,e=>by
  obtain ⟨⟨ZS,hx⟩,hp⟩:=hp
  simp only at ZS hx
  subst ZS
  simp only [Nl] at e
  split at e
  case h_2=>cases e
  rename_i off u hf
  split at e
  case h_2=>cases e
  rename_i ti HD
  split at e
  case isFalse=>cases e
  rename_i hc
  obtain ⟨c1,c2,c3⟩:=hc
  simp only [Option.bind_eq_some_iff] at e
  obtain ⟨cs1,e1,e2⟩:=e
  have PZ:x.cells≠[]:=by intro h0;rw [h0] at c1;simp at c1;omega
  obtain ⟨x1,x2⟩:=Ql hx c3 PZ
  rcases J0 h x1 e1 with ⟨s1,s2⟩|⟨s1,_⟩
  ·have GN:v.cells.size=ti.size:=by
    have:=x1.len
    rw [←c1,this];simp
   have hlen:=h.len
   obtain ⟨E_,f1,f2⟩:=Lf hp s1 e2
   refine ⟨E_,?_,f2⟩
   have bD:(fun i=>(fs[i]?).bind fun q=>((P.info? q.2).map fun i=>(q.1,i.size))) i=some (off,ti.size):=by
    have:=B7.size hT HD
    cases hq:P.info? u with
    |none=>simp [hq] at this
    |some iu=>simp [hq] at this;simp [hf,hq,this]
   rw [Se (i:=i) (off:=off) (size:=ti.size) bD GN (by simp at hlen;omega)]
   exact f1
  ·exact absurd s1 PZ
 |[],_::_,_,_,_,hp,_,_=>hp.elim
 |_::_,[],_,_,_,hp,_,_=>hp.elim
theorem VP (h:Rel E σ a w) {t:TypeId} {ps:Array (Nat×Operand)} (ho:o.op= .build t ps) {s b:Nat} {fs:List nB} {rw:Option Ty} (HD:T.get t=some ⟨s,b,.st fs,rw⟩) {r:Ty} (hr:T.On t=some r)
  {cs:List AV} (hb:Nl T fs (LR r) (ps.toList.map fun q=>(q.1,σ.ev q.2))=some cs) (e:k (.agg cs) σ=some y):EV P o E σ a w k y:=by
 obtain ⟨i,z,h1,h2,h3,_⟩:=QZ hT hr
 obtain ⟨fields,hu,hfs,GN⟩:=Zk hT HD
 obtain ⟨E_,f1,f2⟩:=Lf hT (Rl h ps) (arr:=z.cells) (by rw [h3];exact Kl r) hb
 refine EV.same h (v:= .agg E_) (x:= .agg cs) ?_ ⟨E_,rfl,f2⟩ e
 have hb:P.built t (ps.map fun (i,x)=>(i,a.eval x)).toList=some E_:=by
  unfold Program.built
  simp only [h1,hu,h2]
  have hm:fields.toList.mapM (fun f=>(P.info? f.type).map fun i=>(f.offset,i.size))=some (fields.toList.map fun f=>(f.offset,((P.info? f.type).map (·.size)).getD 0)):=by
   refine QV fun f hf=> ?_
   obtain ⟨i',Kt,_⟩:=GN f hf
   simp [Kt]
  simp only [hm]
  rw [←f1]
  congr 1
  funext n
  subst hfs
  simp only [List.getElem?_toArray,List.getElem?_map]
  cases hn:fields.toList[n]? with
  |none=>simp
  |some f=>
   obtain ⟨i',Kt,_⟩:=GN f (List.mem_of_getElem? hn)
   simp [Kt]
 have:=run_build (P:=P) w t (ps.map fun (i,x)=>(i,a.eval x)) E_ hb
 simp only [execOp,ho,Sem.run_bind,this,Result.andThen_ok,Sem.run_pure]
end
end Go.Fw
end
section
namespace Go.Fw
theorem wrap_small {n:Int} (h0:0≤n) (h1:n≤(I8:Int)):IntKind.i64.wrap n=n:=by
 simp only [I8] at h1
 unfold IntKind.wrap
 simp only [IntKind.bits,IntKind.signed]
 have e:n%(2^64:Int)=n:=Int.emod_eq_of_lt h0 (by omega)
 simp only [e]
 rw [if_neg (by simp;omega)]
theorem CB {m:Nat} {zl:List Value}:((List.replicate m zl).flatten).length=m*zl.length:=by
 induction m with
 |zero=>simp
 |succ m ih=>simp only [List.replicate_succ,List.flatten_cons,List.length_append,ih,Nat.succ_mul];omega
theorem E8 {zl:List Value}: ∀{m i:Nat},i<m*zl.length→((List.replicate m zl).flatten)[i]? =zl[i%zl.length]?
 |0,i,h=>by simp at h
 |m+1,i,h=>by
  simp only [List.replicate_succ,List.flatten_cons]
  by_cases hi:i<zl.length
  ·rw [List.getElem?_append_left hi,Nat.mod_eq_of_lt hi]
  ·have Kt:zl.length≤i:=by omega
   rw [List.getElem?_append_right Kt,E8 (by rw [Nat.succ_mul] at h;omega),←Nat.mod_eq_sub_mod Kt]
theorem Lw {zero:Array Value} {zl:List Value} (hz:zero.toList=zl) (m:Nat) (h0:zl≠[]):((Array.range (m*zl.length)).map (fun i=>zero[i%zero.size]!)).toList=(List.replicate m zl).flatten:=by
 have hs:zero.size=zl.length:=by rw [←hz];simp
 have g9:0<zl.length:=List.length_pos_iff.2 h0
 apply List.ext_getElem?
 intro i
 by_cases hi:i<m*zl.length
 ·rw [E8 hi]
  have gF:i%zl.length<zl.length:=Nat.mod_lt _ g9
  simp only [Array.toList_map,Array.toList_range,List.getElem?_map,List.getElem?_range hi,Option.map_some,hs]
  rw [List.getElem?_eq_getElem gF]
  congr 1
  subst hz
  have mD:i%zero.size<zero.size:=by rw [hs];exact gF
  simp [mD,←hs]
 ·have h1:((Array.range (m*zl.length)).map (fun i=>zero[i%zero.size]!)).toList.length≤i:=by simp;omega
  rw [List.getElem?_eq_none h1,List.getElem?_eq_none (by rw [CB];omega)]
section
variable {Y:Type} {P:Program} {T:Dp} (hT:B7 P T) {o:Oper} {E:Env} {σ:St} {a:Act} {w:World} {k:K Y} {y:Y}
include hT
theorem M6 {e:Nat} {ti:TI} {r:Ty} (he:T.get e=some ti) (hr:ti.row=some r): ∃i z,P.info? e=some i∧i.size=ti.size∧i.bytes=ti.bytes∧i.zero=some z∧z.cells.toList=CR r∧r.Tu=true:=by
 obtain ⟨i,h1,h2,h3,h4⟩:=(hT e ti he).info
 obtain ⟨hg,z,h5,h6⟩:=h4 r hr
 exact ⟨i,z,h1,h2,h3,h5,h6,hg⟩
theorem XU (h:Rel E σ a w) {t:TypeId} {l c:Operand} (ho:o.op= .makeSlice t l c) (e:Sh T t σ (σ.ev l) (σ.ev c) k=some y):EV P o E σ a w k y:=by
 unfold Sh at e
 split at e
 case h_2=>cases e
 rename_i el n m hd hl hc
 split at e
 case h_2=>cases e
 rename_i r hr
 split at e
 case isFalse=>cases e
 rename_i NW
 split at e
 case isFalse=>cases e
 rename_i hb
 obtain ⟨b0,b1,b2⟩:=hb
 obtain ⟨el',ti,hu,HD,hs,fh,hrow⟩:=Fe hT NW
 obtain ⟨i,z,i1,i2,i3,i4,i5,hg⟩:=M6 hT HD hrow
 obtain ⟨κ1,e1⟩:=DG hl (h.ev l)
 obtain ⟨κ2,e2⟩:=DG hc (h.ev c)
 have w1:=wrap_small b0 (by omega)
 have w2:=wrap_small (n:=m) (by omega) b2
 let arr:Array Value:=(Array.range (m.toNat*r.n)).map (fun j=>(if m.toNat*r.n=0 then #[] else z.cells)[j%(if m.toNat*r.n=0 then (#[]:Array Value) else z.cells).size]!)
 have Nc:arr.toList=(List.replicate n.toNat (CR r)).flatten++(List.replicate (m.toNat-n.toNat) (CR r)).flatten:=by
  have hz:=Dx r
  have split:(List.replicate n.toNat (CR r)).flatten++(List.replicate (m.toNat-n.toNat) (CR r)).flatten=(List.replicate m.toNat (CR r)).flatten:=by
   rw [←List.flatten_append,List.replicate_append_replicate]
   congr 2;omega
  rw [split]
  by_cases h0:m.toNat*r.n=0
  ·have:arr.toList=[]:=by simp [arr,h0]
   rw [this]
   symm
   rw [←List.length_eq_zero_iff,CB,hz,h0]
  ·have PZ:CR r≠[]:=by
    intro he
    rw [he] at hz
    simp at hz
    rw [←hz] at h0
    simp at h0
   have:=Lw i5 m.toNat PZ
   rw [hz] at this
   simp only [arr,if_neg h0]
   exact this
 let w':=w.alloc (.cells arr el')
 have new:w'.heap[w.heap.size]? =some (.cells arr el'):=by
  show (w.heap.push (.cells arr el'))[w.heap.size]? =_
  simp
 have aT:arr.size=m.toNat*r.n:=by simp [arr]
 have how:Ow w' E.S (8+1) (.sl r) [.slice (some ⟨w.heap.size,0,none⟩) (List.replicate n.toNat r.z).length m.toNat] (List.replicate n.toNat r.z) (w.heap.size::(List.replicate n.toNat ([]:mu)).flatten):=by
  refine N6 new Nc (by simp) (by simp;omega) (by omega) (O6 _) (by simp) fun i cs y G h1 h2 h3=> ?_
  simp only [List.getElem?_replicate] at h1 h2 h3
  split at h1
  ·rename_i hi
   rw [if_pos hi] at h2 h3
   cases h1;cases h2;cases h3
   exact QI hg
  ·cases h1
 have hF:(List.replicate n.toNat ([]:mu)).flatten=[]:=by simp
 rw [hF] at how
 simp only [List.length_replicate] at how
 obtain ⟨r1,r2,r3⟩:=Hy h (Ch.refl h.bx) (w':=w') (d:=9) (by omega) how (by simp) (by simp) (by simp [w']) (fun c hc _=>GP hc) ⟨rfl,rfl,rfl,by simp [w']⟩
 refine ⟨_,_,_,_,_,.inl ?_,r1,r3,r2.any,rfl,e⟩
 have jX:(i.bytes:Int)*m≤2^48:=by
  have h1:(i.bytes:Int)≤512:=by omega
  have h2:(i.bytes:Int)*m≤512*m:=Int.mul_le_mul_of_nonneg_right h1 (by omega)
  simp only [I8] at b2
  omega
 simp only [execOp,ho,Instr.makeSlice,e1,e2,Sem.run_bind,AQ hu,Result.andThen_ok,asInt,asIntOf,Sem.run_pure,typeInfo,run_program,i1,w1,w2]
 rw [if_neg (by simp;omega)]
 by_cases h0:m.toNat*r.n=0
 ·have e3:arr=(Array.range (m.toNat*r.n)).map (fun j=>(#[]:Array Value)[j%(#[]:Array Value).size]!):=by simp only [arr,if_pos h0]
  simp only [Sem.run_bind,run_askRoom,Result.andThen_ok,sizeOf,typeInfo,run_program,i1,Sem.run_pure,i2,hs,h0,if_true,newRow,run_newObj]
  simp only [w',e3,h0]
  rfl
 ·have e3:arr=(Array.range (m.toNat*r.n)).map (fun j=>z.cells[j%z.cells.size]!):=by simp only [arr,if_neg h0]
  simp only [Sem.run_bind,run_askRoom,Result.andThen_ok,sizeOf,typeInfo,run_program,i1,Sem.run_pure,i2,hs,h0,if_false,newRow,run_newObj,zeroValue,i4]
  simp only [w',e3]
  rfl
end
end Go.Fw
end
section
namespace Go.Fw
theorem Tg {w:World} {B S:Nat→Prop} {d:Nat}: ∀{r:Ty} {cs:List Value} {x:r.D},r.flat=true→Rd w B r cs x→Ow w S d r cs x []
 | .cons c r,cs,x,h,hr=>by
  simp only [Ty.flat,Bool.and_eq_true] at h
  simp only [Rd] at hr
  obtain ⟨v,l,rfl,h1,h2⟩:=hr
  simp only [Ow]
  exact ⟨v,l,[],[],rfl,rfl,Tg h.1 h1,Tg h.2 h2⟩
 | .unit,_,_,_,hr=>by simp only [Rd] at hr;simp [Ow,hr]
 | .int k,_,_,_,hr=>by simp only [Rd] at hr;simp [Ow,hr]
 | .bool,_,_,_,hr=>by simp only [Rd] at hr;simp [Ow,hr]
 | .str,_,_,_,hr=>by simp only [Rd] at hr;simp [Ow,hr]
 | .sl q,_,_,h,_=>by simp [Ty.flat] at h
theorem PF {P:Program} {w:World} {b o:Nat} {cs:List Value} (h:An w b o cs):(loadCells ⟨b,o,none⟩ cs.length).run P w= .ok cs.toArray w:=
 run_loadCells_list (P:=P) w ⟨b,o,none⟩ cs fun j v hv=>by rw [Addr.add_eq];exact h j v hv
theorem Jx {P:Program} {w:World} (a:Addr):(loadCells a 0).run P w= .ok #[] w:=by
 simpa using run_loadCells_list (P:=P) w a [] (by simp)
theorem Jt {l:List Value}:(l.map fun v=>[v]).flatten=l:=by
 induction l with
 |nil=>rfl
 |cons a l ih=>simp [ih]
theorem Up {w:World} {B:Nat→Prop} {r:Ty} {b o:Nat} {ys:List r.D} (h: ∀(i:Nat) (y:r.D),ys[i]? =some y→ ∃cs,cs.length=r.n∧An w b (o+i*r.n) cs∧Rd w B r cs y):
  ∃css:List (List Value),css.length=ys.length∧(∀c∈css,c.length=r.n)∧An w b o css.flatten∧ ∀(i:Nat) cs y,css[i]? =some cs→ys[i]? =some y→Rd w B r cs y:=by
 induction ys generalizing o with
 |nil=>exact ⟨[],rfl,by simp,fun _ _ h=>by simp at h,fun i cs y h=>by simp at h⟩
 |cons y ys ih=>
  obtain ⟨cs,c1,c2,c3⟩:=h 0 y rfl
  obtain ⟨css,d1,d2,d3,d4⟩:=ih (o:=o+r.n) (fun i z hz=>by
   obtain ⟨cs,e1,e2,e3⟩:=h (i+1) z (by simpa using hz)
   refine ⟨cs,e1,?_,e3⟩
   rw [Nat.add_mul,Nat.one_mul] at e2
   rwa [show o+r.n+i*r.n=o+(i*r.n+r.n) by omega])
  refine ⟨cs::css,by simp [d1],by simpa using ⟨c1,d2⟩,?_,?_⟩
  ·intro j v hj
   simp only [List.flatten_cons] at hj
   by_cases ZN:j<cs.length
   ·rw [List.getElem?_append_left ZN] at hj
    have:=c2 j v hj
    simpa using this
   ·rw [List.getElem?_append_right (by omega)] at hj
    have:=d3 _ v hj
    rwa [show o+r.n+(j-cs.length)=o+j by omega] at this
  ·intro i L6 z h1 h2
   cases i with
   |zero=>simp at h1 h2;subst h1 h2;exact c3
   |succ i=>exact d4 i L6 z (by simpa using h1) (by simpa using h2)
theorem An.append {w:World} {b o:Nat} {l m:List Value} (h:An w b o l) (k:An w b (o+l.length) m):An w b o (l++m):=by
 intro j v hj
 by_cases ZN:j<l.length
 ·rw [List.getElem?_append_left ZN] at hj
  exact h j v hj
 ·rw [List.getElem?_append_right (by omega)] at hj
  have:=k _ v hj
  rwa [show o+l.length+(j-l.length)=o+j by omega] at this
section
variable {Y:Type} {P:Program} {T:Dp} (hT:B7 P T) {o:Oper} {E:Env} {σ:St} {a:Act} {w:World} {k:K Y} {y:Y}
theorem DP (hT:B7 P T) {t:Nat} {d:TD} (e:(T.get t).map TI.desc=some d):NU P t d:=by
 simp only [Option.map_eq_some_iff] at e
 obtain ⟨ti,h1,rfl⟩:=e
 exact (hT t ti h1).YK
theorem Rj {src dst e:Nat} (hs:P.underlying src=some (.slice e)) (he:P.underlying e=some (.int .u8)) (hd:P.underlying dst=some .string) {x:Value} {l:mr} {B:Nat→Prop}
  (h:Rd w B (.sl (.int .u8)) [x] l):(convert src dst x).run P w= .ok (.string ⟨(l.map fun n:Int=>UInt8.ofNat n.toNat).toArray⟩) w:=by
 simp only [Rd] at h
 obtain ⟨a,cap,hx,hle,h⟩:=h
 simp only [List.cons.injEq,and_true] at hx
 subst hx
 rcases h with h|⟨b,o,rfl,_,h⟩
 ·obtain rfl:=List.eq_nil_of_length_eq_zero h
  cases a with
  |none=>exact run_convert_bytes_nil w src e hs he _ _ dst hd
  |some a=>
   rw [run_convert_bytes_string w src dst e _ _ cap hs he hd]
   have:=_root_.Go.run_bytesToString (P:=P) w a 0 cap [] (by simpa using Jx (P:=P) (w:=w) a)
   simp only [List.length_nil] at*
   rw [this];rfl
 ·refine run_convert_bytes_arg w src e hs he b o _ cap l rfl (fun i hi=> ?_) dst hd
  obtain ⟨cs,c1,c2,c3⟩:=h i _ (List.getElem?_eq_getElem hi)
  subst c3
  have:=c2 0 _ rfl
  simp only [Ty.n,Nat.mul_one,Nat.add_zero] at this
  rw [this]
  simp [List.getD,hi]
include hT in
theorem W8 (h:Rel E σ a w) {src dst:Nat} {x:Operand} (ho:o.op= .convert src dst x) (e:SZ T src dst σ (σ.ev x) k=some y):EV P o E σ a w k y:=by
 have hx:=h.ev x
 unfold SZ at e
 split at e
 ·rename_i κ0 κ j n hs hd hv
  have h1:=DP hT hs
  have h2:=DP hT hd
  rw [hv] at hx
  have L8:=Lt (E:=E) (w:=w) (vw:=σ.bx) hx
  refine EV.same h (v:= .int κ (κ.wrap n)) (x:= .c (.v (.int κ) (κ.wrap n))) ?_ (VR.int (E:=E) (vw:=σ.bx) _ _) e
  simp only [NU] at h1 h2
  simp only [execOp,ho,L8,convert,Sem.run_bind,AQ h1,AQ h2,Result.andThen_ok,Conv.intToInt,Sem.run_pure]
 ·rename_i s hs hd hv
  have h1:=DP hT hs
  have h2:=DP hT hd
  rw [hv] at hx
  have L8:=Jd (E:=E) (w:=w) (vw:=σ.bx) hx
  refine EV.same h (v:= .string ⟨s.toArray⟩) (x:= .c (.v .str s)) ?_ (VR.str (E:=E) (vw:=σ.bx) _) e
  simp only [NU] at h1 h2
  simp only [execOp,ho,L8,convert,Sem.run_bind,AQ h1,AQ h2,Result.andThen_ok,Sem.run_pure]
 ·rename_i el s hs hd hv
  have h1:=DP hT hs
  have h2:=DP hT hd
  rw [hv] at hx
  have L8:=Jd (E:=E) (w:=w) (vw:=σ.bx) hx
  split at e
  case h_2=>cases e
  rename_i NW
  have h3:=DP hT NW
  split at e
  case isFalse=>cases e
  rename_i SD
  simp only [NU] at h1 h2 h3
  let S0:ByteArray:=⟨s.toArray⟩
  have GN:S0.size=s.length:=by simp [S0,ByteArray.size]
  have Rx:=Lib.run_convert_string_bytes (P:=P) w src dst el S0 h1 h2 h3
  have ZB:s.length≤grownCap w S0.size 0 el:=by rw [GN];exact grownCap_ge _ _ _ _
  have new:=Lib.bytesWorld_at_new w el S0
  have Nc:(Lib.bytesCells w el S0).toList=(s.map fun c=>[Value.int .u8 (c.toNat:Int)]).flatten++List.replicate (grownCap w S0.size 0 el-S0.size) (.int .u8 0):=by
   have:(s.map fun c=>[Value.int .u8 (c.toNat:Int)]).flatten=s.map fun c=>Value.int .u8 (c.toNat:Int):=by
    have:=Jt (l:=s.map fun c=>Value.int .u8 (c.toNat:Int))
    simpa [List.map_map,Function.comp_def] using this
   rw [this]
   simp [Lib.bytesCells,S0]
  have aT:(Lib.bytesCells w el S0).size=grownCap w S0.size 0 el:=by
   rw [←Array.length_toList,Nc]
   have:((s.map fun c=>[Value.int .u8 (c.toNat:Int)]).flatten).length=s.length:=by
    have:=Jt (l:=s.map fun c=>Value.int .u8 (c.toNat:Int))
    rw [List.map_map] at this
    have e2:(s.map fun c=>[Value.int .u8 (c.toNat:Int)])=s.map ((fun v=>[v])∘fun c=>Value.int .u8 (c.toNat:Int)):=rfl
    rw [e2,this];simp
   rw [List.length_append,this,List.length_replicate]
   omega
  have how:Ow (Lib.bytesWorld w el S0) E.S (8+1) (.sl (.int .u8)) [.slice (some ⟨w.heap.size,0,none⟩) (s.map fun c=>(c.toNat:Int)).length (grownCap w S0.size 0 el)] (s.map fun c=>(c.toNat:Int))
    (w.heap.size::(List.replicate s.length ([]:mu)).flatten):=by
   refine N6 (css:=s.map fun c=>[Value.int .u8 (c.toNat:Int)]) new Nc (by simp) (by simpa using ZB) (by simp [Ty.n];omega) (fun i hi hh=>by omega) (by simp) fun i cs y G q1 q2 q3=> ?_
   simp only [List.getElem?_map,Option.map_eq_some_iff] at q1 q2
   obtain ⟨c1,z1,rfl⟩:=q1
   obtain ⟨c2,z2,rfl⟩:=q2
   rw [z1] at z2;cases z2
   have:G=[]:=List.eq_of_mem_replicate (List.mem_of_getElem? q3)
   subst this
   simp [Ow]
  have hF:(List.replicate s.length ([]:mu)).flatten=[]:=by simp
  rw [hF] at how
  obtain ⟨r1,r2,r3⟩:=Hy h (Ch.refl h.bx) (w':=Lib.bytesWorld w el S0) (d:=9) (by omega) how (by simp) (by simp) (by simp [Lib.bytesWorld_size]) (fun c hc _=>Lib.bytesWorld_at_old w el S0 c hc)
   ⟨by simp [Lib.bytesWorld,World.freeze]<;>rfl,by simp [Lib.bytesWorld,World.freeze]<;>rfl,by simp [Lib.bytesWorld,World.freeze]<;>rfl,by rw [Lib.bytesWorld_size];omega⟩
  refine ⟨_,_,_,_,_,.inl ?_,r1,r3,r2.any,rfl,e⟩
  simp only [execOp,ho,L8,Sem.run_bind]
  have e5:=Rx
  simp only [S0] at e5
  rw [e5]
  simp only [Result.andThen_ok,Sem.run_pure,List.length_map]
  rfl
 ·rename_i el z hs hd hv
  have h1:=DP hT hs
  have h2:=DP hT hd
  rw [hv] at hx
  split at e
  case h_2=>cases e
  rename_i l NW hl
  have h3:=DP hT NW
  simp only [NU] at h1 h2 h3
  obtain ⟨Fs,hB,hS⟩:=h.bx
  have Km:=Il (Bw.refl σ.bx) hB hS.st hx hl
  have hr:=Rj (P:=P) h1 h3 h2 Km
  refine EV.same h (v:= .string ⟨(l.map fun n:Int=>UInt8.ofNat n.toNat).toArray⟩) (x:= .c (.v .str (l.map fun n:Int=>UInt8.ofNat n.toNat))) ?_ (VR.str (E:=E) (vw:=σ.bx) _) e
  simp only [execOp,ho,Sem.run_bind,hr,Result.andThen_ok,Sem.run_pure]
 ·cases e
end
end Go.Fw
end
section
namespace Go.Fw
theorem L9: ∀(l:List Value) (o:Nat) (arr:Array Value) (p q:List Value),p.length=o→(∃m:List Value,m.length=l.length∧arr.toList=p++m++q)→(CL arr o l).toList=p++l++q
 |[],o,arr,p,q,hp,⟨m,hm,h⟩=>by
  have:m=[]:=List.eq_nil_of_length_eq_zero (by simpa using hm)
  subst this
  simpa [CL] using h
 |c::l,o,arr,p,q,hp,⟨m,hm,h⟩=>by
  cases m with
  |nil=>simp at hm
  |cons b m=>
   simp only [CL]
   have:=L9 l (o+1) (arr.setIfInBounds o c) (p++[c]) q (by simp [hp]) ⟨m,by simpa using hm,by
    rw [Array.toList_setIfInBounds,h]
    subst hp
    simp⟩
   rw [this]
   simp
theorem Ch.more {E E1 E2:Env} {w:World} {vw bx Oh K0:List Bx} {G F1 F2 A W:mu} (k1:Ch E w vw bx G E1 Oh F1) (k2:Ch E1 w vw Oh (F1++G) E2 K0 F2) (hp:F1.Perm (A++W)):
  let E3:Env:={ E2 with S:=fun c=>E2.S c∨c∈W,T:=fun c=>E2.T c∨c∈W }
  Ch E w vw bx G E3 K0 (A++F2):=by
 intro E3
 have hB:=k2.boxes.perm (G':=(F2++A)++W++G) (by
  rw [List.append_assoc F2 A W,List.append_assoc F2]
  exact List.Perm.append_left _ (List.Perm.append_right _ hp))
 obtain ⟨hle,Ja⟩:=hB.share
 exact ⟨(k1.le.trans k2.le).trans hle,k2.len.trans k1.len,fun b B hb=>(k2.within b B hb).elim .inl (k1.within b B),Ja.perm (List.Perm.append_right _ List.perm_append_comm)⟩
theorem Kv {w:World} {vw:List Bx} {r:Ty} (hg:r.Tu=true): ∀{n i:Nat} {parts:List (Nat×XV)} {vals:List (Nat×Value)} {E:Env} {bx:List Bx} {G:mu} {d:Nat} {rows:List r.D} {Gq:List Bx} {d':Nat},
  A6 E w vw bx G→Bw bx vw→1≤d→U_ E w vw parts vals→KG r i n parts bx d=some (rows,Gq,d')→1≤d'∧d'≤d∧rows.length=n∧ ∃(E':Env) (Fs:List mu) (css:List (List Value)),
   Ch E w vw bx G E' Gq Fs.flatten∧css.length=n∧Fs.length=n∧(∀(k:Nat) cs y G,css[k]? =some cs→rows[k]? =some y→Fs[k]? =some G→Ow w E'.S (d'-1) r cs y G)∧
   ∀(pre:List (List Value)) (arr:Array Value),pre.length=i→(∀c∈pre,c.length=r.n)→arr.toList=pre.flatten++(List.replicate n (CR r)).flatten→
    ∃E_,Instr.fill (fun i=>some (i*r.n,r.n)) arr vals=some E_∧E_.toList=pre.flatten++css.flatten
 |0,i,[],[],E,bx,G,d,rows,Gq,d',h,hw,hd,hp,e=>by
  simp only [KG,Option.some.injEq,Prod.mk.injEq] at e
  obtain ⟨rfl,rfl,rfl⟩:=e
  refine ⟨hd,Nat.le_refl _,rfl,E,[],[],Ch.refl h,rfl,rfl,by simp,fun pre arr _ _ ha=>⟨arr,rfl,by simpa using ha⟩⟩
 |n+1,i,(j,x)::l,(j',v)::m,E,bx,G,d,rows,Gq,d',h,hw,hd,hp,e=>by
  obtain ⟨⟨hj,hx⟩,hp⟩:=hp
  simp only at hj hx
  subst hj
  simp only [KG] at e
  split at e
  case isFalse=>cases e
  rename_i ZS
  subst ZS
  simp only [Option.bind_eq_some_iff,Option.map_eq_some_iff,Prod.mk.injEq] at e
  obtain ⟨⟨y1,Oh,d1⟩,e1,⟨y2,K0,d2⟩,e2,rfl,rfl,rfl⟩:=e
  dsimp only at e2⊢
  obtain ⟨a1,a2,E1,F1,k1,o1⟩:=Ux h hw hd hx e1
  have UK:=k1.le.GM (w:=w) (vw:=vw) h.st
  obtain ⟨b1,b2,b3,E2,Fs,css,k2,c1,c2,c3,c4⟩:=Kv hg (G:=F1++G) k1.boxes (hw.Rb k1) a1 (hp.imp fun _ _ q=>⟨q.1,F5 UK q.2⟩) e2
  obtain ⟨A,W,Pk,o1'⟩:=Dv (d:=d'-1) (by omega) o1
  refine ⟨b1,Nat.le_trans b2 a2,by simp [b3],_,A::Fs,v.cells.toList::css,Ch.more k1 k2 Pk,by simp [c1],by simp [c2],fun k cs y G' q1 q2 q3=> ?_,fun pre arr eY gC ha=> ?_⟩
  ·cases k with
   |zero=>
    simp at q1 q2 q3
    subst q1 q2 q3
    refine Bd (S:=fun b=>E1.S b∨b∈W) ?_ (fun _ _=>rfl) (fun _ _=>rfl) o1'
    intro c hc
    exact hc.elim (fun h=> .inl (k2.le.S c h)) .inr
   |succ k=>
    refine Bd (S:=E2.S) ?_ (fun _ _=>rfl) (fun _ _=>rfl) (c3 k cs y G' (by simpa using q1) (by simpa using q2) (by simpa using q3))
    intro c hc
    exact .inl hc
  ·have hlen:v.cells.toList.length=r.n:=Kr o1
   have fG:pre.flatten.length=i*r.n:=by
    clear ha c4
    subst eY
    clear e1 e2
    induction pre with
    |nil=>simp
    |cons c pre ih=>simp [gC c (by simp),ih (fun c hc=>gC c (by simp [hc])),Nat.succ_mul];omega
   have MF:(CL arr (i*r.n) v.cells.toList).toList=pre.flatten++v.cells.toList++(List.replicate n (CR r)).flatten:=
    L9 _ _ _ _ _ fG ⟨CR r,by rw [Dx,hlen],by rw [ha];simp [List.replicate_succ]⟩
   obtain ⟨E_,f1,f2⟩:=c4 (pre++[v.cells.toList]) (CL arr (i*r.n) v.cells.toList) (by simp [eY]) (by
    intro c hc
    rcases List.mem_append.1 hc with hc|hc
    ·exact gC c hc
    ·simp at hc;subst hc;exact hlen) (by rw [MF];simp)
   refine ⟨E_,?_,by rw [f2];simp⟩
   rw [Se (i:=i) (off:=i*r.n) (size:=r.n) rfl (by simpa using hlen) ?_]
   ·exact f1
   ·have h1:arr.size=arr.toList.length:=by simp
    rw [h1,ha,List.length_append,fG,CB,Dx]
    simp at hlen
    rw [hlen,Nat.succ_mul]
    omega
 |n+1,i,[],[],E,bx,G,d,rows,Gq,d',h,hw,hd,hp,e=>by
  simp only [KG,Option.map_eq_some_iff,Prod.mk.injEq] at e
  obtain ⟨⟨y2,K0,d2⟩,e2,rfl,rfl,rfl⟩:=e
  obtain ⟨b1,b2,b3,E2,Fs,css,k2,c1,c2,c3,c4⟩:=Kv hg (G:=G) h hw hd (parts:=[]) (vals:=[]) trivial e2
  refine ⟨b1,b2,by simp [b3],E2,[]::Fs,CR r::css,by simpa using k2,by simp [c1],by simp [c2],fun k cs y G' q1 q2 q3=> ?_,fun pre arr eY gC ha=> ?_⟩
  ·cases k with
   |zero=>
    simp at q1 q2 q3
    subst q1 q2 q3
    exact QI hg
   |succ k=>exact c3 k cs y G' (by simpa using q1) (by simpa using q2) (by simpa using q3)
  ·obtain ⟨E_,f1,f2⟩:=c4 (pre++[CR r]) arr (by simp [eY]) (by
    intro c hc
    rcases List.mem_append.1 hc with hc|hc
    ·exact gC c hc
    ·simp at hc;subst hc;exact Dx r) (by rw [ha];simp [List.replicate_succ])
   exact ⟨E_,f1,by rw [f2];simp⟩
 |0,_,_::_,_,_,_,_,_,_,_,_,_,_,_,_,e=>by simp [KG] at e
 |0,_,[],_::_,_,_,_,_,_,_,_,_,_,_,hp,_=>hp.elim
 |_+1,_,[],_::_,_,_,_,_,_,_,_,_,_,_,hp,_=>hp.elim
 |_+1,_,_::_,[],_,_,_,_,_,_,_,_,_,_,hp,_=>hp.elim
section
variable {Y:Type} {P:Program} {T:Dp} (hT:B7 P T) {o:Oper} {E:Env} {σ:St} {a:Act} {w:World} {k:K Y} {y:Y}
include hT
theorem Pv (h:Rel E σ a w) {t n:Nat} {ps:Array (Nat×Operand)} (ho:o.op= .buildSlice t n ps) (e:Gr T t n (ps.toList.map fun q=>(q.1,σ.ev q.2)) σ k=some y):EV P o E σ a w k y:=by
 unfold Gr at e
 split at e
 case h_2=>cases e
 rename_i el hd
 split at e
 case h_2=>cases e
 rename_i r hr
 split at e
 case isFalse=>cases e
 rename_i hc
 simp only [Bool.and_eq_true,decide_eq_true_eq] at hc
 obtain ⟨⟨NW,hn⟩,jh⟩:=hc
 simp only [Option.bind_eq_some_iff] at e
 obtain ⟨⟨rows,Gq,d'⟩,e1,e⟩:=e
 dsimp only at e
 obtain ⟨el',ti,hu,HD,hs,fh,hrow⟩:=Fe hT NW
 obtain ⟨i,z,i1,i2,i3,i4,i5,hg⟩:=M6 hT HD hrow
 have ba:=Rl h ps
 obtain ⟨b1,b2,b3,E',Fs,css,k2,c1,c2,c3,c4⟩:=Kv hg h.bx (Bw.refl _) (by omega) ba e1
 let zero:Array Value:=if n*r.n=0 then #[] else z.cells
 have hz:((Array.range (n*r.n)).map (fun j=>zero[j%zero.size]!)).toList=(List.replicate n (CR r)).flatten:=by
  by_cases h0:n*r.n=0
  ·have h1:(List.replicate n (CR r)).flatten=[]:=by
    rw [←List.length_eq_zero_iff,CB,Dx,h0]
   rw [h1]
   simp [h0]
  ·have PZ:CR r≠[]:=by
    intro he
    have:=Dx r
    rw [he] at this
    simp at this
    rw [←this] at h0
    simp at h0
   have:=Lw i5 n PZ
   rw [Dx] at this
   simp only [zero,if_neg h0]
   exact this
 obtain ⟨E_,f1,f2⟩:=c4 [] _ rfl (by simp) (by rw [hz];simp)
 simp only [List.flatten_nil,List.nil_append] at f2
 let w':=w.alloc (.cells E_ el')
 have new:w'.heap[w.heap.size]? =some (.cells E_ el'):=by
  show (w.heap.push (.cells E_ el'))[w.heap.size]? =_
  simp
 obtain ⟨d,rfl⟩: ∃m,d' =m+1:=⟨d'-1,by omega⟩
 have hl: ∀c∈css,c.length=r.n:=by
  intro c hc
  obtain ⟨j,hj,rfl⟩:=List.getElem_of_mem hc
  exact Kr (c3 j _ _ _ (List.getElem?_eq_getElem hj) (List.getElem?_eq_getElem (by omega)) (List.getElem?_eq_getElem (by omega)))
 have dW:css.flatten.length=n*r.n:=by
  rw [←c1]
  clear f2 c3 c4 c1
  induction css with
  |nil=>simp
  |cons c l ih=>simp [hl c (by simp),ih (fun c hc=>hl c (by simp [hc])),Nat.succ_mul];omega
 have aT:E_.size=n*r.n:=by rw [←Array.length_toList,f2,dW]
 obtain ⟨Fs0,gO,Ja⟩:=k2.boxes
 simp only [List.append_nil] at Ja
 have how:Ow w' E'.S (d+1) (.sl r) [.slice (some ⟨w.heap.size,0,none⟩) rows.length n] rows (w.heap.size::Fs.flatten):=by
  refine N6 (css:=css) (ex:=[]) new (by simpa using f2) (by omega) (by omega) (by omega) (O6 _) (by omega) fun k cs y G q1 q2 q3=> ?_
  have Pn: ∀c∈G,c∈Fs.flatten:=fun c hc=>List.mem_flatten.2 ⟨G,List.mem_of_getElem? q3,hc⟩
  exact Bd (fun _ h=>h) (fun c hc=>GP (Ja.NM c (Ja.st c hc))) (fun c hc=>GP (Ja.lt c (by simp only [List.mem_append];exact .inr (Pn c hc)))) (by simpa using c3 k cs y G q1 q2 q3)
 rw [b3] at how
 obtain ⟨r1,r2,r3⟩:=Hy h k2 (w':=w') (d:=d+1) (by omega) how (by
   intro c hc
   rcases List.mem_cons.1 hc with rfl|hc
   ·exact .inr (Nat.le_refl _)
   ·exact .inl hc) (by
   refine List.nodup_cons.2 ⟨fun hc=> ?_,(List.nodup_append.1 Ja.nodup).2.1⟩
   have:=Ja.lt w.heap.size (by simp only [List.mem_append];exact .inr hc)
   omega) (by
   intro c hc
   rcases List.mem_cons.1 hc with rfl|hc
   ·simp [w']
   ·have:=Ja.lt c (by simp only [List.mem_append];exact .inr hc)
    simp [w'];omega) (fun c hc _=>GP hc) ⟨rfl,rfl,rfl,by simp [w']⟩
 refine ⟨_,_,_,_,_,.inl ?_,r1,r3,r2.any,rfl,e⟩
 have SD: ¬(n*r.n>2^24):=by
  have:n*r.n≤1024*1024:=Nat.mul_le_mul hn jh
  omega
 simp only [execOp,ho,Instr.buildSlice,Sem.run_bind,AQ hu,Result.andThen_ok,sizeOf,typeInfo,run_program,i1,Sem.run_pure,i2,hs,SD,if_false]
 by_cases h0:n*r.n=0
 ·have iF:zero= #[]:=by simp only [zero,if_pos h0]
  rw [iF] at f1
  simp only [h0,if_true,Sem.run_bind,Sem.run_pure,Result.andThen_ok]
  rw [h0] at f1
  simp only [f1,newRow,Sem.run_bind,run_newObj,Result.andThen_ok,Sem.run_pure]
  rfl
 ·have iF:zero=z.cells:=by simp only [zero,if_neg h0]
  rw [iF] at f1
  simp only [h0,if_false,Sem.run_bind,zeroValue,typeInfo,run_program,Result.andThen_ok,i1,Sem.run_pure,i4]
  simp only [f1,newRow,Sem.run_bind,run_newObj,Result.andThen_ok,Sem.run_pure]
  rfl
end
end Go.Fw
end
section
namespace Go.Fw
theorem La (w:World) (b o:Nat) (v:Value):(w.setCell ⟨b,o,none⟩ v).heap=w.heap.modify b fun
 | .cells c elem frozen=> .cells (c.setIfInBounds o v) elem frozen
 |o=>o:=rfl
theorem D9: ∀(vs:List Value) (o:Nat) (w:World) (b:Nat) (arr:Array Value) (ty:TypeId) (fr:nB),w.heap[b]? =some (.cells arr ty fr)→
  (w.setCells b o vs).heap[b]? =some (.cells (CL arr o vs) ty fr)
 |[],_,_,_,_,_,_,h=>h
 |v::l,o,w,b,arr,ty,fr,h=>by
  simp only [World.setCells,CL]
  refine D9 l (o+1) _ b _ ty fr ?_
  rw [La,Array.getElem?_modify,if_pos rfl,h]
  rfl
theorem Co: ∀(vs:List Value) (o:Nat) (w:World) (b:Nat),(w.setCells b o vs).heap.size=w.heap.size
 |[],_,_,_=>rfl
 |v::l,o,w,b=>by
  simp only [World.setCells]
  rw [Co l,La,Array.size_modify]
theorem EU: ∀(vs:List Value) (o:Nat) (w:World) (b c:Nat),c≠b→(w.setCells b o vs).heap[c]? =w.heap[c]?
 |[],_,_,_,_,_=>rfl
 |v::l,o,w,b,c,h=>by
  simp only [World.setCells]
  rw [EU l _ _ _ _ h,La,Array.getElem?_modify,if_neg (fun e=>h e.symm)]
theorem BC: ∀(vs:List Value) (o:Nat) (w:World) (b:Nat),Grown w (w.setCells b o vs)
 |[],_,_,_=>⟨rfl,rfl,rfl,Nat.le_refl _⟩
 |v::l,o,w,b=>by
  have:=BC l (o+1) (w.setCell ⟨b,o,none⟩ v) b
  refine ⟨this.os,this.tape,this.output,?_⟩
  rw [Co]
  exact Nat.le_refl _
theorem JK {arr:Array Value}: ∀{l:List Value} {o j:Nat},o+l.length≤arr.size→(CL arr o l)[j]? =if o≤j∧j<o+l.length then l[j-o]? else arr[j]?:=by
 intro l
 induction l generalizing arr with
 |nil=>intro o j _;rw [if_neg (fun hh=>by simp only [List.length_nil] at hh;omega)];rfl
 |cons c l ih=>
  intro o j h
  simp only [List.length_cons] at h
  simp only [CL]
  rw [ih (by simp;omega)]
  by_cases h1:o+1≤j∧j<o+1+l.length
  ·rw [if_pos h1,if_pos (by simp;omega)]
   rw [show j-o=(j-(o+1))+1 by omega]
   simp
  ·rw [if_neg h1]
   by_cases h2:o=j
   ·subst h2
    rw [if_pos (by simp),Array.getElem?_setIfInBounds_self_of_lt (by omega),Nat.sub_self]
    rfl
   ·rw [if_neg (fun hh=>by simp only [List.length_cons] at hh;omega),Array.getElem?_setIfInBounds_ne h2]
theorem Ex {w:World} {b o:Nat} {arr:Array Value} {ty:TypeId} {fr:nB} (h:w.heap[b]? =some (.cells arr ty fr)):w.cell? ⟨b,o,none⟩=arr[o]?:=by
 simp [World.cell?,h]
theorem Ih {w:World} {b o:Nat} {vs:List Value} {arr:Array Value} {ty:TypeId} {fr:nB} (h:w.heap[b]? =some (.cells arr ty fr)) (hs:o+vs.length≤arr.size):An (w.setCells b o vs) b o vs:=by
 intro j v hj
 have hl:=(List.getElem?_eq_some_iff.1 hj).1
 rw [Ex (D9 vs o w b arr ty fr h),JK hs,if_pos (by omega),show o+j-o=j by omega,hj]
theorem NS {w:World} {b b' o o':Nat} {vs cs:List Value} {arr:Array Value} {ty:TypeId} {fr:nB} (hc:An w b' o' cs) (h:w.heap[b]? =some (.cells arr ty fr)) (hs:o+vs.length≤arr.size)
  (ha:b'≠b∨o'+cs.length≤o∨o+vs.length≤o'):An (w.setCells b o vs) b' o' cs:=by
 intro j v hj
 have hl:=(List.getElem?_eq_some_iff.1 hj).1
 by_cases hb:b' =b
 ·subst hb
  have:=hc j v hj
  rw [Ex h] at this
  rw [Ex (D9 vs o w b' arr ty fr h),JK hs,if_neg (by omega),this]
 ·rw [World.cell?_of_block (a:=⟨b',o'+j,none⟩) (EU vs o w b b' hb)]
  exact hc j v hj
theorem Of {w:World} {b o n:Nat} {arr:Array Value} {ty:TypeId} {fr:nB} (h:w.heap[b]? =some (.cells arr ty fr)) (hs:o+n≤arr.size) (hu:Vx fr arr.size):w.there b o n:=by
 intro j hj
 refine ⟨?_,?_⟩
 ·rw [Ex h]
  simp;omega
 ·have:=hu (o+j) (by omega)
  obtain ⟨lo,hi⟩:=fr
  simp only [World.frozen?,h]
  simp at this⊢
  omega
theorem Tk {w:World} {S:Nat→Prop}: ∀{r:Ty} {d:Nat} {cs:List Value} {y:r.D} {F:mu},Ow w S d r cs y F→ ∀v∈cs,v.oneCell' =true
 | .int _,_,_,_,_,h,v,hv=>by simp only [Ow] at h;rw [h.1] at hv;simp at hv;subst hv;rfl
 | .bool,_,_,_,_,h,v,hv=>by simp only [Ow] at h;rw [h.1] at hv;simp at hv;subst hv;rfl
 | .str,_,_,_,_,h,v,hv=>by simp only [Ow] at h;rw [h.1] at hv;simp at hv;subst hv;rfl
 | .unit,_,_,_,_,h,v,hv=>by simp only [Ow] at h;rw [h.1] at hv;simp at hv
 | .sl _,0,_,_,_,h,v,hv=>by
  simp only [Ow,Rd] at h
  obtain ⟨⟨_,_,rfl,_⟩,_⟩:=h
  simp at hv;subst hv;rfl
 | .sl _,_+1,_,_,_,h,v,hv=>by
  simp only [Ow] at h
  obtain ⟨_,_,rfl,_⟩:=h
  simp at hv;subst hv;rfl
 | .cons _ _,_,_,_,_,h,v,hv=>by
  simp only [Ow] at h
  obtain ⟨u,l,F1,F2,rfl,_,h1,h2⟩:=h
  rcases List.mem_cons.1 hv with rfl|hv
  ·exact Tk h1 _ (by simp)
  ·exact Tk h2 _ hv
section
variable {P:Program} {w:World}
structure SC (P:Program) (w:World) (size n:Nat) (x:Value) (news:List Value):Prop where
 len: ∀w',(Builtin.lenOf x).run P w' = .ok n w'
 cells: ∀w',w'.heap=w.heap→(Builtin.firstCells size n x).run P w' = .ok news.toArray w'
theorem Rz {ts:Array TypeId} {t u ty e:TypeId} (T6:ts[0]? =some t) (UY:ts[1]? =some u) {i:TypeInfo} {size:Nat} (ht:P.underlying t=some (.slice e)) (hu:(∃e,P.underlying u=some (.slice e))∨P.underlying u=some .string) (hi:P.info? e=some i) (GN:i.size=size)
  {b o Ku Rr n:Nat} {x:Value} {news:List Value} (hn:SC P w size n x news) (Sk:Ku+n≤Rr) (jf:w.there b (o+Ku*size) news.length) (h1: ∀v∈news,v.oneCell' =true):
  (Builtin.append_ ts ty #[.slice (some ⟨b,o,none⟩) Ku Rr,x]).run P w= .ok (.slice (some ⟨b,o,none⟩) (Ku+n) Rr) (w.setCells b (o+Ku*size) news):=by
 subst GN
 have WW:=run_storeCells_cells (P:=P) b (o+Ku*i.size) news 0 w (fun j hj=>by simpa using (jf j hj).1) (fun j hj=>by simpa using (jf j hj).2) h1
 simp only [Nat.add_zero] at WW
 have hl:=hn.len w
 have hf:=hn.cells w rfl
 rcases hu with ⟨e',hu⟩|hu
 ·simp [Builtin.append_,T6,UY,run_underlying ht,run_underlying hu,sizeOf,typeInfo,hi,hl,Sk,hf,Addr.add_eq,WW]
 ·simp [Builtin.append_,T6,UY,run_underlying ht,run_underlying hu,sizeOf,typeInfo,hi,hl,Sk,hf,Addr.add_eq,WW]
theorem P_ {ts:Array TypeId} {t u ty e:TypeId} (T6:ts[0]? =some t) (UY:ts[1]? =some u) {i:TypeInfo} {size:Nat} (ht:P.underlying t=some (.slice e)) (hu:(∃e,P.underlying u=some (.slice e))∨P.underlying u=some .string) (hi:P.info? e=some i) (GN:i.size=size)
  {a:Option Addr} {x:Value} (hn:SC P w size 0 x []):
  (Builtin.append_ ts ty #[.slice a 0 0,x]).run P w= .ok (.slice a 0 0) w:=by
 subst GN
 have hl:=hn.len w
 have hf:=hn.cells w rfl
 cases a with
 |none=>
  rcases hu with ⟨e',hu⟩|hu
  ·simp [Builtin.append_,T6,UY,run_underlying ht,run_underlying hu,sizeOf,typeInfo,hi,hl,hf]
  ·simp [Builtin.append_,T6,UY,run_underlying ht,run_underlying hu,sizeOf,typeInfo,hi,hl,hf]
 |some a=>
  have WW:(storeCells (a.add (0*i.size)) [] 0).run P w= .ok () w:=rfl
  rcases hu with ⟨e',hu⟩|hu
  ·simp [Builtin.append_,T6,UY,run_underlying ht,run_underlying hu,sizeOf,typeInfo,hi,hl,hf,storeCells]
  ·simp [Builtin.append_,T6,UY,run_underlying ht,run_underlying hu,sizeOf,typeInfo,hi,hl,hf,storeCells]
theorem P3 {ts:Array TypeId} {t u ty e:TypeId} (T6:ts[0]? =some t) (UY:ts[1]? =some u) {i:TypeInfo} {z:Value} {size:Nat} (ht:P.underlying t=some (.slice e)) (hu:(∃e,P.underlying u=some (.slice e))∨P.underlying u=some .string) (hi:P.info? e=some i) (hz:i.zero=some z) (GN:i.size=size)
  {a:Option Addr} {Ku Rr n:Nat} {x:Value} {fD news:List Value} (ho: ∀w',w'.heap=w.heap→(Builtin.firstCells size Ku (.slice a Ku Rr)).run P w' = .ok fD.toArray w')
  (hn:SC P w size n x news) (eC:Rr<Ku+n) (kE:Ku+n≤I8) (fh:i.bytes≤512):
  (Builtin.append_ ts ty #[.slice a Ku Rr,x]).run P w= .ok (.slice (some ⟨w.heap.size,0,none⟩) (Ku+n) (grownCap w (Ku+n) Rr e))
   (w.drew.alloc (.cells (fD.toArray++news.toArray++Builtin.zeroCells z.cells (grownCap w (Ku+n) Rr e-(Ku+n))) e)):=by
 subst GN
 have hl:=hn.len w
 have hf:=hn.cells w.drew rfl
 have eJ:=ho w.drew rfl
 have gI: ¬(Ku+n≤Rr):=by omega
 have hb:(Ku+n)*i.bytes≤140737488355328:=by
  have:(Ku+n)*i.bytes≤I8*512:=Nat.mul_le_mul kE fh
  simp only [I8] at this
  omega
 have me:=growslice_fits eC hb
 have fb: ¬(281474976710656<Builtin.nextslicecap (Ku+n) Rr*i.bytes):=by omega
 have gB: ¬(9223372036854775807<((Ku:Int)+(n:Int))):=by simp only [I8] at kE;omega
 rcases hu with ⟨e',hu⟩|hu
 ·simp [Builtin.append_,T6,UY,run_underlying ht,run_underlying hu,sizeOf,typeInfo,zeroValue,hi,hz,hl,gI,gB,fb,Question.forced,hf,eJ,newRow,grownCap]
  congr 2
  apply Array.ext'
  simp [List.append_assoc]
 ·simp [Builtin.append_,T6,UY,run_underlying ht,run_underlying hu,sizeOf,typeInfo,zeroValue,hi,hz,hl,gI,gB,fb,Question.forced,hf,eJ,newRow,grownCap]
  congr 2
  apply Array.ext'
  simp [List.append_assoc]
end
end Go.Fw
end
section
namespace Go.Fw
def Dc (w:World) (S:Nat→Prop) (d:Nat) (r:Ty) (css:List (List Value)) (rows:List r.D) (Fs:List mu):Prop:=
 css.length=rows.length∧Fs.length=rows.length∧(∀c∈css,c.length=r.n)∧ ∀(i:Nat) cs y G,css[i]? =some cs→rows[i]? =some y→Fs[i]? =some G→Ow w S d r cs y G
theorem Dc.mono {w w':World} {S S':Nat→Prop} {d:Nat} {r:Ty} {css:List (List Value)} {rows:List r.D} {Fs:List mu} (h:Dc w S d r css rows Fs) (hS: ∀c,S c→S' c) (hw: ∀c,S c→w'.heap[c]? =w.heap[c]?)
  (hF: ∀c∈Fs.flatten,w'.heap[c]? =w.heap[c]?):Dc w' S' d r css rows Fs:=
 ⟨h.1,h.2.1,h.2.2.1,fun i cs y G a b c=>Bd hS hw (fun x hx=>hF x (List.mem_flatten.2 ⟨G,List.mem_of_getElem? c,hx⟩)) (h.2.2.2 i cs y G a b c)⟩
theorem Dc.append {w:World} {S:Nat→Prop} {d:Nat} {r:Ty} {css e_:List (List Value)} {rows Av:List r.D} {Fs eW:List mu} (h:Dc w S d r css rows Fs) (k:Dc w S d r e_ Av eW):
  Dc w S d r (css++e_) (rows++Av) (Fs++eW):=by
 refine ⟨by simp [h.1,k.1],by simp [h.2.1,k.2.1],fun c hc=>(List.mem_append.1 hc).elim (h.2.2.1 c) (k.2.2.1 c),fun i cs y G a b c=> ?_⟩
 by_cases hi:i<rows.length
 ·rw [List.getElem?_append_left (by rw [h.1];exact hi)] at a
  rw [List.getElem?_append_left hi] at b
  rw [List.getElem?_append_left (by rw [h.2.1];exact hi)] at c
  exact h.2.2.2 i cs y G a b c
 ·rw [List.getElem?_append_right (by rw [h.1];omega)] at a
  rw [List.getElem?_append_right (by omega)] at b
  rw [List.getElem?_append_right (by rw [h.2.1];omega)] at c
  rw [h.1] at a;rw [h.2.1] at c
  exact k.2.2.2 _ cs y G a b c
theorem Dc.weaken {w:World} {S:Nat→Prop} {d d':Nat} {r:Ty} {css:List (List Value)} {rows:List r.D} {Fs:List mu} (h:Dc w S d r css rows Fs) (hd:d'≤d):
  ∃(Gs:List mu) (W:mu),Fs.flatten.Perm (Gs.flatten++W)∧Dc w (fun c=>S c∨c∈W) d' r css rows Gs:=by
 obtain ⟨Gs,Ws,h1,h2,h3,h4⟩:=RQ (R:=fun i G F W=> ∀cs y,css[i]? =some cs→rows[i]? =some y→Ow w (fun c=>S c∨c∈W) d' r cs y F) Fs 0 (fun i G hG=>by
  rw [Nat.zero_add]
  have hi:=(List.getElem?_eq_some_iff.1 hG).1
  have h1:=h.1
  have h2:=h.2.1
  obtain ⟨F,W,hp,ho⟩:=Dv hd (h.2.2.2 i _ _ G (List.getElem?_eq_getElem (by omega)) (List.getElem?_eq_getElem (by omega)) hG)
  refine ⟨F,W,hp,fun cs y a b=> ?_⟩
  rw [List.getElem?_eq_getElem (by omega)] at a b
  cases a;cases b
  exact ho)
 refine ⟨Gs,Ws.flatten,h3,h.1,h1.trans h.2.1,h.2.2.1,fun i cs y G a b c=> ?_⟩
 have hi:=(List.getElem?_eq_some_iff.1 c).1
 have hw:Ws[i]? =some (Ws[i]'(by omega)):=List.getElem?_eq_getElem _
 have hf:Fs[i]? =some (Fs[i]'(by omega)):=List.getElem?_eq_getElem _
 have:=h4 i _ _ _ hf c hw cs y (by rw [Nat.zero_add];exact a) (by rw [Nat.zero_add];exact b)
 exact Bd (fun x hx=>hx.imp id fun hx=>List.mem_flatten.2 ⟨_,List.mem_of_getElem? hw,hx⟩) (fun _ _=>rfl) (fun _ _=>rfl) this
theorem KP {n:Nat}: ∀{css:List (List Value)},(∀c∈css,c.length=n)→css.flatten.length=css.length*n
 |[],_=>by simp
 |c::l,h=>by simp [h c (by simp),KP (css:=l) (fun c hc=>h c (by simp [hc])),Nat.succ_mul];omega
theorem Dc.one {w:World} {S:Nat→Prop} {d:Nat} {r:Ty} {css:List (List Value)} {rows:List r.D} {Fs:List mu} (h:Dc w S d r css rows Fs): ∀v∈css.flatten,v.oneCell' =true:=by
 intro v hv
 obtain ⟨c,hc,hv⟩:=List.mem_flatten.1 hv
 obtain ⟨i,hi,rfl⟩:=List.getElem_of_mem hc
 have h1:=h.1
 have h2:=h.2.1
 exact Tk (h.2.2.2 i _ _ _ (List.getElem?_eq_getElem hi) (List.getElem?_eq_getElem (by omega)) (List.getElem?_eq_getElem (by omega))) v hv
theorem Dc.flat {w:World} {B S:Nat→Prop} {d:Nat} {r:Ty} (hf:r.flat=true) {css:List (List Value)} {rows:List r.D} (h1:css.length=rows.length) (h2: ∀c∈css,c.length=r.n)
  (h3: ∀(i:Nat) cs y,css[i]? =some cs→rows[i]? =some y→Rd w B r cs y):Dc w S d r css rows (List.replicate rows.length []):=by
 refine ⟨h1,by simp,h2,fun i cs y G a b c=> ?_⟩
 have:G=[]:=List.eq_of_mem_replicate (List.mem_of_getElem? c)
 subst this
 exact Tg hf (h3 i cs y a b)
theorem An.heap {w w':World} {b o:Nat} {cs:List Value} (h:An w b o cs) (e:w'.heap=w.heap):An w' b o cs:=h.HW (by rw [e])
theorem H6 {P:Program} {w:World} {a:Option Addr} {n cap size:Nat} {css:List (List Value)} (hl:css.length=n) (hc: ∀c∈css,c.length=size)
  (h:n=0∨ ∃b o,a=some ⟨b,o,none⟩∧An w b o css.flatten):SC P w size n (.slice a n cap) css.flatten:=by
 refine ⟨fun w' =>rfl,fun w' e=> ?_⟩
 have hlen:css.flatten.length=n*size:=by rw [KP hc,hl]
 rcases h with rfl|⟨b,o,rfl,h⟩
 ·have:css=[]:=List.eq_nil_of_length_eq_zero hl
  subst this
  cases a with
  |none=>rfl
  |some a=>
   simp only [Builtin.firstCells,Nat.zero_mul,List.flatten_nil]
   exact Jx a
 ·simp only [Builtin.firstCells]
  rw [←hlen]
  exact PF (h.heap e)
theorem Yf {P:Program} {w:World} {s:List UInt8}:SC P w 1 s.length (.string ⟨s.toArray⟩) (s.map fun c=>[Value.int .u8 (c.toNat:Int)]).flatten:=by
 refine ⟨fun w' =>rfl,fun w' _=> ?_⟩
 have GN:(⟨s.toArray⟩:ByteArray).size=s.length:=by simp [ByteArray.size]
 have e1:(⟨s.toArray⟩:ByteArray).extract 0 s.length=⟨s.toArray⟩:=by
  rw [←GN]
  apply ByteArray.ext
  simp
 simp only [Builtin.firstCells,e1,Sem.run_pure]
 have:(s.map fun c=>[Value.int .u8 (c.toNat:Int)]).flatten=s.map fun c=>Value.int .u8 (c.toNat:Int):=by
  have:=Jt (l:=s.map fun c=>Value.int .u8 (c.toNat:Int))
  simpa [List.map_map,Function.comp_def] using this
 rw [this]
 simp
theorem WT {w:World} {S:Nat→Prop} {d:Nat} {r:Ty} {v:Value} {rows:List r.D} {F:mu} (h:Ow w S (d+1) (.sl r) [v] rows F):
  ∃a cap css Fs R,v= .slice a rows.length cap∧rows.length≤cap∧Dc w S d r css rows Fs∧F.Perm (Fs.flatten++R)∧
   ((cap=0∧F=[])∨ ∃b o arr ty fr,a=some ⟨b,o,none⟩∧w.heap[b]? =some (.cells arr ty fr)∧o+cap*r.n≤arr.size∧Vx fr arr.size∧F=b::Fs.flatten∧An w b o css.flatten):=by
 simp only [Ow] at h
 obtain ⟨a,cap,e,hle,h⟩:=h
 simp only [List.cons.injEq,and_true] at e
 subst e
 rcases h with ⟨h,rfl⟩|⟨b,o,arr,ty,fr,Fs,rfl,hb,GN,hu,rfl,hFl,hr⟩
 ·have:rows=[]:=List.eq_nil_of_length_eq_zero (by omega)
  subst this
  exact ⟨a,cap,[],[],[],rfl,hle,⟨rfl,rfl,by simp,fun i cs y G h=>by simp at h⟩,by simp,.inl ⟨h,rfl⟩⟩
 ·
  have key: ∀(n o:Nat) (ys:List r.D) (Fs:List mu),ys.length=n→Fs.length=n→(∀(i:Nat) (y:r.D) (G:mu),ys[i]? =some y→Fs[i]? =some G→ ∃cs,cs.length=r.n∧An w b (o+i*r.n) cs∧Ow w S d r cs y G)→
    ∃css,Dc w S d r css ys Fs∧An w b o css.flatten:=by
   intro n
   induction n with
   |zero=>
    intro o ys Fs h1 h2 _
    obtain rfl:=List.eq_nil_of_length_eq_zero h1
    obtain rfl:=List.eq_nil_of_length_eq_zero h2
    exact ⟨[],⟨rfl,rfl,by simp,fun i cs y G h=>by simp at h⟩,fun _ _ h=>by simp at h⟩
   |succ n ih=>
    intro o ys Fs h1 h2 hh
    obtain ⟨y,ys,rfl⟩:=List.exists_cons_of_length_eq_add_one h1
    obtain ⟨G,Fs,rfl⟩:=List.exists_cons_of_length_eq_add_one h2
    obtain ⟨cs,c1,c2,c3⟩:=hh 0 y G rfl rfl
    obtain ⟨css,d1,d2⟩:=ih (o+r.n) ys Fs (by simpa using h1) (by simpa using h2) (fun i z G hz hG=>by
     obtain ⟨cs,e1,e2,e3⟩:=hh (i+1) z G (by simpa using hz) (by simpa using hG)
     refine ⟨cs,e1,?_,e3⟩
     rw [Nat.add_mul,Nat.one_mul] at e2
     rwa [show o+r.n+i*r.n=o+(i*r.n+r.n) by omega])
    refine ⟨cs::css,⟨by simp [d1.1],by simp [d1.2.1],fun c hc=> ?_,fun i L6 y' G' a b c=> ?_⟩,?_⟩
    ·rcases List.mem_cons.1 hc with rfl|hc
     ·exact c1
     ·exact d1.2.2.1 c hc
    ·cases i with
     |zero=>simp at a b c;subst a b c;exact c3
     |succ i=>exact d1.2.2.2 i L6 y' G' (by simpa using a) (by simpa using b) (by simpa using c)
    ·rw [List.flatten_cons]
     refine An.append (by simpa using c2) ?_
     rw [c1];exact d2
  obtain ⟨css,k1,k2⟩:=key rows.length o rows Fs rfl hFl hr
  refine ⟨_,cap,css,Fs,[b],rfl,hle,k1,?_,.inr ⟨b,o,arr,ty,fr,rfl,hb,GN,hu,rfl,k2⟩⟩
  exact (List.perm_append_comm (l₁:=[b]) (l₂:=Fs.flatten))
theorem PH {w:World} {S:Nat→Prop}: ∀{r:Ty} {cs:List Value} {x:r.D},Rd w S r cs x→Ow w S 0 r cs x []
 | .cons c r,cs,x,hr=>by
  simp only [Rd] at hr
  obtain ⟨v,l,rfl,h1,h2⟩:=hr
  simp only [Ow]
  exact ⟨v,l,[],[],rfl,rfl,PH h1,PH h2⟩
 | .unit,_,_,hr=>by simp only [Rd] at hr;simp [Ow,hr]
 | .int k,_,_,hr=>by simp only [Rd] at hr;simp [Ow,hr]
 | .bool,_,_,hr=>by simp only [Rd] at hr;simp [Ow,hr]
 | .str,_,_,hr=>by simp only [Rd] at hr;simp [Ow,hr]
 | .sl q,_,_,hr=>by simp only [Ow];exact ⟨hr,trivial⟩
theorem NK {P:Program} {E:Env} {w:World} {vw bx:List Bx} {G:mu} (h:A6 E w vw bx G) (hw:Bw bx vw) {x:AV} {v:Value} (hv:VR E w vw x v) {r:Ty} {rows:List r.D} {Gq:List Bx} {d:Nat}
  (e:QG bx x=some ⟨r,rows,Gq,d⟩):1≤d∧ ∃E' F css Fs R,Ch E w vw bx G E' Gq F∧F.Perm (List.flatten Fs++R)∧Dc w E'.S (d-1) r css rows Fs∧SC P w r.n rows.length v css.flatten:=by
 have plain: ∀{B:Nat→Prop} {ys:List r.D},r.flat=true→Rd w B (.sl r) [v] ys→ ∀S:Nat→Prop,∃css,Dc w S 8 r css ys (List.replicate ys.length [])∧SC P w r.n ys.length v css.flatten:=by
  intro B ys hf hr S
  simp only [Rd] at hr
  obtain ⟨a,cap,e1,hle,hr⟩:=hr
  simp only [List.cons.injEq,and_true] at e1
  subst e1
  rcases hr with hr|⟨b,o,rfl,_,hr⟩
  ·have:ys=[]:=List.eq_nil_of_length_eq_zero hr
   subst this
   exact ⟨[],⟨rfl,rfl,by simp,fun i cs y G h=>by simp at h⟩,H6 (css:=[]) rfl (by simp) (.inl rfl)⟩
  ·obtain ⟨css,c1,c2,c3,c4⟩:=Up hr
   exact ⟨css,Dc.flat hf c1 c2 c4,H6 c1 c2 (.inr ⟨b,o,rfl,c3⟩)⟩
 have done: ∀{B:Nat→Prop} {ys:List r.D},r.flat=true→Rd w B (.sl r) [v] ys→rows=ys→Gq=bx→d=9→
   1≤d∧ ∃E' F css Fs R,Ch E w vw bx G E' Gq F∧F.Perm (List.flatten Fs++R)∧Dc w E'.S (d-1) r css rows Fs∧SC P w r.n rows.length v css.flatten:=by
  intro B ys hf hr e1 e2 e3
  subst e1 e2 e3
  obtain ⟨css,k1,k2⟩:=plain hf hr E.S
  exact ⟨by omega,E,[],css,_,[],Ch.refl h,by simp,k1,k2⟩
 unfold QG at e
 split at e
 ·rename_i s
  simp only [Option.some.injEq,Sigma.mk.injEq] at e
  obtain ⟨rfl,e⟩:=e
  have e:=eq_of_heq e
  simp only [Prod.mk.injEq] at e
  obtain ⟨rfl,rfl,rfl⟩:=e
  have L8:=Jd hv
  subst L8
  refine ⟨by omega,E,[],s.map fun c=>[Value.int .u8 (c.toNat:Int)],_,[],Ch.refl h,?_,Dc.flat (B:=fun _=>False) rfl (by simp) (by simp [Ty.n]) (fun i cs y a b=> ?_),?_⟩
  ·simp
  ·simp only [List.getElem?_map,Option.map_eq_some_iff] at a b
   obtain ⟨c1,z1,rfl⟩:=a
   obtain ⟨c2,z2,rfl⟩:=b
   rw [z1] at z2;cases z2
   simp [Rd]
  ·have:=Yf (P:=P) (w:=w) (s:=s)
   simpa [Ty.n] using this
 ·rename_i s q ys
  split at e
  ·rename_i hf
   simp only [Option.some.injEq,Sigma.mk.injEq] at e
   obtain ⟨rfl,e⟩:=e
   have e:=eq_of_heq e
   simp only [Prod.mk.injEq] at e
   obtain ⟨rfl,rfl,rfl⟩:=e
   exact done hf hv rfl rfl rfl
  ·split at e
   case isFalse=>cases e
   rename_i hs
   simp only [Option.some.injEq,Sigma.mk.injEq] at e
   obtain ⟨rfl,e⟩:=e
   have e:=eq_of_heq e
   simp only [Prod.mk.injEq] at e
   obtain ⟨rfl,rfl,rfl⟩:=e
   subst hs
   simp only [VR,if_true] at hv
   simp only [Rd] at hv
   obtain ⟨a,cap,e1,hle,hr⟩:=hv
   simp only [List.cons.injEq,and_true] at e1
   subst e1
   have key: ∃css:List (List Value),List.length css=ys.length∧(∀c∈css,c.length=q.n)∧(∀(i:Nat) cs y,css[i]? =some cs→ys[i]? =some y→Rd w E.S q cs y)∧SC P w q.n ys.length (.slice a ys.length cap) css.flatten:=by
    rcases hr with hr|⟨b,o,rfl,_,hr⟩
    ·have:ys=[]:=List.eq_nil_of_length_eq_zero hr
     subst this
     exact ⟨[],rfl,by simp,fun i cs y h=>by simp at h,H6 (css:=[]) rfl (by simp) (.inl rfl)⟩
    ·obtain ⟨css,c1,c2,c3,c4⟩:=Up hr
     exact ⟨css,c1,c2,c4,H6 c1 c2 (.inr ⟨b,o,rfl,c3⟩)⟩
   obtain ⟨css,c1,c2,c3,c4⟩:=key
   refine ⟨Nat.le_refl _,E,[],css,List.replicate ys.length [],[],Ch.refl h,by simp,⟨c1,by simp,c2,fun i cs y G a b c=> ?_⟩,c4⟩
   have:G=[]:=List.eq_of_mem_replicate (List.mem_of_getElem? c)
   subst this
   exact PH (c3 i cs y a b)
 ·rename_i b
  split at e
  case h_2=>cases e
  rename_i d0 q ys hb
  split at e
  ·rename_i hf
   simp only [Option.some.injEq,Sigma.mk.injEq] at e
   obtain ⟨rfl,e⟩:=e
   have e:=eq_of_heq e
   simp only [Prod.mk.injEq] at e
   obtain ⟨rfl,rfl,rfl⟩:=e
   obtain ⟨Fs,hB,hS⟩:=h
   exact done hf (K4 hw hB hS.st hv (q:=q) (ys:=ys) (by simp [E4,hb,Cb])) rfl rfl rfl
  ·simp only [Option.some.injEq,Sigma.mk.injEq] at e
   obtain ⟨rfl,e⟩:=e
   have e:=eq_of_heq e
   simp only [Prod.mk.injEq] at e
   obtain ⟨rfl,rfl,rfl⟩:=e
   obtain ⟨F,⟨hd,ho⟩,hB⟩:=h.take hb
   have fx:=KM hw hb
   simp only [VR,fx,Aw,Option.some.injEq] at hv
   obtain ⟨_,_,_,rfl⟩:=hv
   obtain ⟨m,rfl⟩: ∃m,d0=m+1:=⟨d0-1,by omega⟩
   obtain ⟨a,cap,css,Fs,R,e1,hle,MD,hp,hcase⟩:=WT ho
   refine ⟨hd,E,F,css,Fs,R,⟨Le.refl _,by simp,fun n B hn=> ?_,hB⟩,hp,MD,?_⟩
   ·rw [List.getElem?_set] at hn
    split at hn
    ·split at hn
     ·exact .inl (by simpa using hn.symm)
     ·cases hn
    ·exact .inr hn
   ·rw [e1]
    refine H6 MD.1 MD.2.2.1 ?_
    rcases hcase with ⟨h0,_⟩|⟨b,o,arr,ty,fr,rfl,_,_,_,_,hc⟩
    ·exact .inl (by omega)
    ·exact .inr ⟨b,o,rfl,hc⟩
 ·rename_i b p _
  split at e
  case h_2=>cases e
  rename_i d0 q ys hb
  simp only [Option.bind_eq_some_iff] at e
  obtain ⟨⟨q',zs⟩,e1,e⟩:=e
  dsimp only at e
  split at e
  case isFalse=>cases e
  rename_i hf
  simp only [Option.some.injEq,Sigma.mk.injEq] at e
  obtain ⟨rfl,e⟩:=e
  have e:=eq_of_heq e
  simp only [Prod.mk.injEq] at e
  obtain ⟨rfl,rfl,rfl⟩:=e
  obtain ⟨Fs,hB,hS⟩:=h
  exact done hf (K4 hw hB hS.st hv (q:=q') (ys:=zs) (by simp [E4,hb,e1])) rfl rfl rfl
 ·rename_i b p off n
  split at e
  case h_2=>cases e
  rename_i d0 q ys hb
  simp only [Option.bind_eq_some_iff] at e
  obtain ⟨⟨q',zs⟩,e1,e⟩:=e
  dsimp only at e
  split at e
  case isFalse=>cases e
  rename_i hf
  simp only [Option.some.injEq,Sigma.mk.injEq] at e
  obtain ⟨rfl,e⟩:=e
  have e:=eq_of_heq e
  simp only [Prod.mk.injEq] at e
  obtain ⟨rfl,rfl,rfl⟩:=e
  obtain ⟨Fs,hB,hS⟩:=h
  exact done hf (K4 hw hB hS.st hv (q:=q') (ys:=(zs.drop off).take n) (by simp [E4,hb,e1])) rfl rfl rfl
 ·cases e
theorem ND {E:Env} {w:World} {vw bx:List Bx} {G:mu} (h:A6 E w vw bx G) (hw:Bw bx vw) {x:AV} {v:Value} (hv:VR E w vw x v) {r:Ty} {rows:List r.D} {Gq:List Bx} {d:Nat}
  (e:QU bx x=some ⟨r,rows,Gq,d⟩):1≤d∧ ∃F1 F2,Ch E w vw bx G E Gq (F1++F2)∧Ow w E.S d (.sl r) [v] rows F1:=by
 have tk: ∀{b d0:Nat} {q:Ty} {ys:List q.D},bx[b]? =some (.sl d0 q ys)→ ∃F,1≤d0∧Ow w E.S d0 (.sl q) [E.DB b] ys F∧Ch E w vw bx G E (bx.set b .dead) F:=by
  intro b d0 q ys hb
  obtain ⟨F,⟨hd,ho⟩,hB⟩:=h.take hb
  refine ⟨F,hd,ho,⟨Le.refl _,by simp,fun n B hn=> ?_,hB⟩⟩
  rw [List.getElem?_set] at hn
  split at hn
  ·split at hn
   ·exact .inl (by simpa using hn.symm)
   ·cases hn
  ·exact .inr hn
 unfold QU at e
 split at e
 ·rename_i b
  split at e
  case h_2=>cases e
  rename_i d0 q ys hb
  simp only [Option.some.injEq,Sigma.mk.injEq] at e
  obtain ⟨rfl,e⟩:=e
  have e:=eq_of_heq e
  simp only [Prod.mk.injEq] at e
  obtain ⟨rfl,rfl,rfl⟩:=e
  obtain ⟨F,hd,ho,hT⟩:=tk hb
  have fx:=KM hw hb
  simp only [VR,fx,Aw,Option.some.injEq] at hv
  obtain ⟨_,_,_,rfl⟩:=hv
  exact ⟨hd,F,[],by simpa using hT,ho⟩
 ·rename_i b off n
  split at e
  case h_2=>cases e
  rename_i d0 q ys hb
  simp only [Option.some.injEq,Sigma.mk.injEq] at e
  obtain ⟨rfl,e⟩:=e
  have e:=eq_of_heq e
  simp only [Prod.mk.injEq] at e
  obtain ⟨rfl,rfl,rfl⟩:=e
  obtain ⟨F,hd,ho,hT⟩:=tk hb
  have fx:=KM hw hb
  simp only [VR,fx,Aw,Option.some.injEq] at hv
  obtain ⟨_,_,q',zs,a,len,cap,h1,h2,h3,rfl⟩:=hv
  simp only [Cb,Option.some.injEq,Sigma.mk.injEq] at h1
  obtain ⟨rfl,h1⟩:=h1
  obtain rfl:=eq_of_heq h1
  rw [h3] at ho
  obtain ⟨m,rfl⟩: ∃m,d0=m+1:=⟨d0-1,by omega⟩
  obtain ⟨F1,F2,hp,Xc⟩:=Yg ho h2
  exact ⟨hd,F1,F2,⟨hT.le,hT.len,hT.within,hT.boxes.perm (List.Perm.append_right _ hp)⟩,Xc⟩
 ·cases e
end Go.Fw
end
section
namespace Go.Fw
theorem SJ {P:Program} {w:World} {a:Option Addr} {n cap size:Nat} {css:List (List Value)} (hl:css.length=n) (hc: ∀c∈css,c.length=size)
  (h:n=0∨ ∃b o,a=some ⟨b,o,none⟩∧An w b o css.flatten): ∀w',w'.heap=w.heap→(Builtin.firstCells size n (.slice a n cap)).run P w' = .ok css.flatten.toArray w':=
 (H6 (P:=P) (cap:=cap) hl hc h).cells
theorem SG {z:Array Value} {n:Nat}:(Builtin.zeroCells z n).size=n*z.size:=size_zeroCells z n
section
variable {Y:Type} {P:Program} {T:Dp} (hT:B7 P T) {o:Oper} {E:Env} {σ:St} {a:Act} {w:World} {k:K Y} {y:Y}
include hT
theorem PW (h:Rel E σ a w) {E2:Env} {K0:List Bx} {F Fd R:mu} {t u ty:TypeId} {ts:Array TypeId} (T6:ts[0]? =some t) (UY:ts[1]? =some u)
  (hu:(∃e,P.underlying u=some (.slice e))∨P.underlying u=some .string) {m:Nat} {r:Ty} (NW:T.Hf t r=true)
  (kT:Ch E w σ.bx σ.bx [] E2 K0 F) {v1 v2:Value} {drows HM:List r.D} {css:List (List Value)} {Fs:List mu}
  (ho:Ow w E2.S (m+1) (.sl r) [v1] drows Fd) (hs:Dc w E2.S m r css HM Fs) (hn:SC P w r.n HM.length v2 css.flatten) (hp:F.Perm (Fd++Fs.flatten++R)) (SD:drows.length+HM.length≤I8):
  ∃v w' E',(Builtin.append_ ts ty #[v1,v2]).run P w= .ok v w'∧Rel E' { σ with bx:=K0++[.sl (m+1) r (drows++HM)] } a w'∧G8 [] E σ.bx w E' (K0++[.sl (m+1) r (drows++HM)]) w'∧
   XR E' w' (K0++[.sl (m+1) r (drows++HM)]) (.c (.ref K0.length [])) v:=by
 obtain ⟨e,ti,hut,HD,cA,fh,hrow⟩:=Fe hT NW
 obtain ⟨i,z,i1,i2,i3,i4,i5,hg⟩:=M6 hT HD hrow
 rw [cA] at i2
 obtain ⟨Fs0,gO,Ja⟩:=kT.boxes
 simp only [List.append_nil] at Ja
 have bc: ∀c∈Fd,c∈F:=fun c hc=>hp.mem_iff.2 (by simp [hc])
 have gR: ∀c∈Fs.flatten,c∈F:=fun c hc=>hp.mem_iff.2 (by simp only [List.mem_append];exact .inl (.inr hc))
 have cF:=(List.nodup_append.1 (hp.nodup_iff.1 (List.nodup_append.1 Ja.nodup).2.1)).1
 have dZ: ∀c∈F,c<w.heap.size:=fun c hc=>Ja.lt c (by simp only [List.mem_append];exact .inr hc)
 have eD: ∀c∈F,¬E2.S c:=fun c hc hS=>Ja.free c (by simp only [List.mem_append];exact .inr hc) (Ja.st c hS)
 have i9:=ho
 obtain ⟨ad,cap,dcss,Fs1,R1,rfl,hle,hd,hp1,hcase⟩:=WT ho
 have V1:css.flatten.length=HM.length*r.n:=by rw [KP hs.2.2.1,hs.1]
 have kG:dcss.flatten.length=drows.length*r.n:=by rw [KP hd.2.2.1,hd.1]
 by_cases Sk:drows.length+HM.length≤cap
 ·rcases hcase with ⟨h0,gn⟩|⟨b,of,arr,ty0,fr,rfl,hb,GN,hunf,rfl,hc⟩
  ·
   have la:drows=[]:=List.eq_nil_of_length_eq_zero (by omega)
   have ka:HM=[]:=List.eq_nil_of_length_eq_zero (by omega)
   subst la ka
   have au:css=[]:=List.eq_nil_of_length_eq_zero hs.1
   subst au h0
   have Rx:=P_ (P:=P) (w:=w) (ty:=ty) T6 UY hut hu i1 i2 (a:=ad) (x:=v2) (by simpa using hn)
   obtain ⟨r1,r2,r3⟩:=Hy h kT (w':=w) (d:=m+1) (by omega) i9 (fun c hc=> .inl (bc c hc)) (List.nodup_append.1 cF).1 (fun c hc=>dZ c (bc c hc)) (fun _ _ _=>rfl) ⟨rfl,rfl,rfl,Nat.le_refl _⟩
   exact ⟨_,_,_,Rx,r1,r2,r3⟩
  ·
   have LB:of+drows.length*r.n+css.flatten.length≤arr.size:=by
    have:(drows.length+HM.length)*r.n≤cap*r.n:=Nat.mul_le_mul_right _ Sk
    rw [Nat.add_mul] at this
    omega
   have Rx:=Rz (P:=P) (w:=w) (ty:=ty) T6 UY hut hu i1 i2 (b:=b) (o:=of) hn Sk (Of hb LB hunf) hs.one
   have kK:b∈F:=bc b (by simp)
   have PZ: ∀c,c∈Fs1.flatten∨c∈Fs.flatten∨E2.S c→c≠b:=by
    intro c Ya e
    subst e
    rcases Ya with Ya|Ya|Ya
    ·exact (List.nodup_cons.1 (List.nodup_append.1 cF).1).1 Ya
    ·exact (List.nodup_append.1 cF).2.2 c (by simp) c Ya rfl
    ·exact eD c kK Ya
   have Lu: ∀c,c≠b→(w.setCells b (of+drows.length*r.n) css.flatten).heap[c]? =w.heap[c]?:=fun c hc=>EU _ _ _ _ _ hc
   have im:=hd.mono (w':=w.setCells b (of+drows.length*r.n) css.flatten) (S':=E2.S) (fun _ h=>h) (fun c hc=>Lu c (PZ c (.inr (.inr hc)))) (fun c hc=>Lu c (PZ c (.inl hc)))
   have cb:=hs.mono (w':=w.setCells b (of+drows.length*r.n) css.flatten) (S':=E2.S) (fun _ h=>h) (fun c hc=>Lu c (PZ c (.inr (.inr hc)))) (fun c hc=>Lu c (PZ c (.inr (.inl hc))))
   have M9:=im.append cb
   have Td:An (w.setCells b (of+drows.length*r.n) css.flatten) b of (dcss++css).flatten:=by
    rw [List.flatten_append]
    refine An.append (NS hc hb LB (.inr (.inl (by omega)))) ?_
    rw [kG]
    exact Ih hb LB
   have how:Ow (w.setCells b (of+drows.length*r.n) css.flatten) E2.S (m+1) (.sl r) [.slice (some ⟨b,of,none⟩) (drows.length+HM.length) cap] (drows++HM) (b::(Fs1++Fs).flatten):=by
    simp only [Ow]
    refine ⟨_,cap,by rw [List.length_append],by rw [List.length_append];exact Sk,.inr ⟨b,of,_,ty0,fr,Fs1++Fs,rfl,D9 _ _ _ _ _ _ _ hb,by rw [EB];exact GN,by rw [EB];exact hunf,rfl,M9.2.1,fun j q G hq hG=> ?_⟩⟩
    have hj:=(List.getElem?_eq_some_iff.1 hq).1
    have h1:=M9.1
    have ZN:j<(dcss++css).length:=by omega
    refine ⟨(dcss++css)[j],M9.2.2.1 _ (List.getElem_mem _),fun x u hx=> ?_,M9.2.2.2 j _ _ _ (List.getElem?_eq_getElem ZN) hq hG⟩
    have kO:=(List.getElem?_eq_some_iff.1 hx).1
    rw [M9.2.2.1 _ (List.getElem_mem _)] at kO
    have:=Mq (n:=r.n) (css:=dcss++css) (ex:=[]) (i:=j) M9.2.2.1 (List.getElem?_eq_getElem ZN) kO
    rw [List.append_nil,hx] at this
    have:=Td _ _ this
    rwa [←Nat.add_assoc] at this
   have Pk:(b::(Fs1++Fs).flatten)=(b::Fs1.flatten)++Fs.flatten:=by simp
   rw [Pk] at how
   obtain ⟨r1,r2,r3⟩:=Hy h kT (w':=w.setCells b (of+drows.length*r.n) css.flatten) (d:=m+1) (by omega) how (fun c hc=> .inl ((List.mem_append.1 hc).elim (bc c) (gR c))) cF
    (fun c hc=>by rw [Co];exact dZ c ((List.mem_append.1 hc).elim (bc c) (gR c))) (fun c hc lG=>Lu c (fun e=>lG (e▸kK))) (BC _ _ _ _)
   exact ⟨_,_,_,Rx,r1,r2,r3⟩
 ·
  have hold:drows.length=0∨ ∃b o,ad=some ⟨b,o,none⟩∧An w b o dcss.flatten:=by
   rcases hcase with ⟨h0,_⟩|⟨b,of,arr,ty0,fr,rfl,hb,GN,hunf,rfl,hc⟩
   ·exact .inl (by omega)
   ·exact .inr ⟨b,of,rfl,hc⟩
  have Rx:=P3 (P:=P) (w:=w) (ty:=ty) T6 UY hut hu i1 i4 i2 (SJ (P:=P) (cap:=cap) hd.1 hd.2.2.1 hold) hn (by omega) SD (by omega)
  have eT:=grownCap_ge w (drows.length+HM.length) cap e
  generalize mi:grownCap w (drows.length+HM.length) cap e=gc at Rx eT
  let arr:Array Value:=dcss.flatten.toArray++css.flatten.toArray++Builtin.zeroCells z.cells (gc-(drows.length+HM.length))
  have Nc:arr.toList=(dcss++css).flatten++(Builtin.zeroCells z.cells (gc-(drows.length+HM.length))).toList:=by simp [arr]
  have di:z.cells.size=r.n:=by rw [←Array.length_toList,i5,Dx]
  have lu:arr.size=gc*r.n:=by
   simp only [arr,Array.size_append,List.size_toArray,SG,di,V1,kG,←Nat.add_mul]
   congr 1;omega
  let w':=w.drew.alloc (.cells arr e)
  have new:w'.heap[w.heap.size]? =some (.cells arr e):=by
   show (w.heap.push (.cells arr e))[w.heap.size]? =_
   simp
  have YC: ∀c,c<w.heap.size→w'.heap[c]? =w.heap[c]?:=fun c hc=>GP (w:=w) (o:= .cells arr e) hc
  have iY: ∀c∈Fs1.flatten,c∈Fd:=fun c hc=>hp1.mem_iff.2 (by simp only [List.mem_append];exact .inl hc)
  have im:=hd.mono (w':=w') (S':=E2.S) (fun _ h=>h) (fun c hc=>YC c (Ja.NM c (Ja.st c hc))) (fun c hc=>YC c (dZ c (bc c (iY c hc))))
  have cb:=hs.mono (w':=w') (S':=E2.S) (fun _ h=>h) (fun c hc=>YC c (Ja.NM c (Ja.st c hc))) (fun c hc=>YC c (dZ c (gR c hc)))
  have M9:=im.append cb
  have how:Ow w' E2.S (m+1) (.sl r) [.slice (some ⟨w.heap.size,0,none⟩) (drows++HM).length gc] (drows++HM) (w.heap.size::(Fs1++Fs).flatten):=
   N6 new Nc M9.1 (by rw [List.length_append];exact eT) (by omega) (O6 _) M9.2.1 M9.2.2.2
  rw [List.length_append] at how
  have Pn: ∀c∈(Fs1++Fs).flatten,c∈Fd++Fs.flatten:=by
   intro c hc
   rw [List.flatten_append,List.mem_append] at hc
   exact List.mem_append.2 (hc.imp (iY c) id)
  have mK:(Fs1++Fs).flatten.Nodup:=by
   rw [List.flatten_append]
   have n1:=(List.nodup_append.1 (hp1.nodup_iff.1 (List.nodup_append.1 cF).1)).1
   exact List.nodup_append.2 ⟨n1,(List.nodup_append.1 cF).2.1,fun x hx y hy=>(List.nodup_append.1 cF).2.2 x (iY x hx) y hy⟩
  have bH: ∀c∈(Fs1++Fs).flatten,c∈F:=fun c hc=>(List.mem_append.1 (Pn c hc)).elim (bc c) (gR c)
  obtain ⟨r1,r2,r3⟩:=Hy h kT (w':=w') (d:=m+1) (by omega) how (by
    intro c hc
    rcases List.mem_cons.1 hc with rfl|hc
    ·exact .inr (Nat.le_refl _)
    ·exact .inl (bH c hc)) (by
    refine List.nodup_cons.2 ⟨fun hc=> ?_,mK⟩
    have:=dZ _ (bH _ hc)
    omega) (by
    intro c hc
    rcases List.mem_cons.1 hc with rfl|hc
    ·simp [w']
    ·have:=dZ _ (bH _ hc)
     simp [w'];omega) (fun c hc _=>YC c hc) ⟨rfl,rfl,rfl,by simp [w']⟩
  exact ⟨_,_,_,Rx,r1,r2,r3⟩
end
end Go.Fw
end
section
namespace Go.Fw
theorem Je {α β:Type} {args:Array α} {f:α→β} {x y:β} (h:args.toList.map f=[x,y]): ∃a b,args= #[a,b]∧f a=x∧f b=y:=by
 obtain ⟨l⟩:=args
 match l,h with
 |[a,b],h=>simp at h;exact ⟨a,b,rfl,h.1,h.2⟩
theorem Jv {α β:Type} {args:Array α} {f:α→β} {x:β} (h:args.toList.map f=[x]): ∃a,args= #[a]∧f a=x:=by
 obtain ⟨l⟩:=args
 match l,h with
 |[a],h=>simp at h;exact ⟨a,rfl,h⟩
section
variable {Y:Type} {P:Program} {T:Dp} (hT:B7 P T) {o:Oper} {E:Env} {σ:St} {a:Act} {w:World} {k:K Y} {y:Y}
include hT
theorem Uj (h:Rel E σ a w) {c:Call} {x1 x2:XV} (ho:o.op= .call c) (hc:c.callee= .builtin .append) (DQ:c.args.toList.map σ.ev=[x1,x2]) (e:M8 T c.argTypes σ x1 x2 k=some y):EV P o E σ a w k y:=by
 obtain ⟨o1,o2,hargs',rfl,rfl⟩:=Je DQ
 have L3:=h.ev o1
 have LP:=h.ev o2
 have exec: ∀{v w'},(Builtin.append_ c.argTypes o.type #[a.eval o1,a.eval o2]).run P w= .ok v w'→(execOp a.eval o).run P w= .ok (.value v) w':=by
  intro v w' hr
  simp only [execOp,ho,resolve,hc,hargs',invoke,builtin,Sem.run_bind,Sem.run_pure,Result.andThen_ok,List.map_toArray,List.map_cons,List.map_nil,hr]
 unfold M8 at e
 split at e
 case h_2=>cases e
 rename_i t u T6 UY
 split at e
 case isFalse=>cases e
 rename_i hu
 have kI:(∃e,P.underlying u=some (.slice e))∨P.underlying u=some .string:=by
  rw [Bool.or_eq_true] at hu
  exact hu.imp (Oy hT) (Jo hT)
 split at e
 ·
  rename_i z i7 gl
  rw [i7] at L3
  rw [gl] at LP
  simp only [Option.bind_eq_some_iff] at e
  obtain ⟨⟨r,rows,Gq,d⟩,e1,e⟩:=e
  dsimp only at e
  split at e
  case isFalse=>cases e
  rename_i NW
  split at e
  case isFalse=>cases e
  rename_i SD
  obtain ⟨hd,E',F,css,Fs,R,kT,hp,hs,hn⟩:=NK (P:=P) h.bx (Bw.refl _) LP e1
  obtain ⟨m,rfl⟩: ∃m,d=m+1:=⟨d-1,by omega⟩
  have iB:a.eval o1= .slice none 0 0:=L3
  obtain ⟨v,w',E3,hr,r1,r2,r3⟩:=PW hT h (ty:=o.type) T6 UY kI NW kT (v1:= .slice none 0 0) (Fd:=[]) (drows:=[]) Qt hs hn (R:=R) (by simpa using hp) (by simpa using SD)
  rw [←iB] at hr
  simp only [List.nil_append] at r1 r3
  exact ⟨_,_,_,_,_,.inl (exec hr),r1,r3,r2.any,rfl,e⟩
 ·rename_i z1 z2 de i7 gl
  rw [i7] at L3
  rw [gl] at LP
  simp only [Option.bind_eq_some_iff] at e
  obtain ⟨⟨r,rows,Oh,d⟩,e1,e⟩:=e
  dsimp only at e
  split at e
  case isFalse=>cases e
  rename_i NW
  simp only [Option.bind_eq_some_iff] at e
  obtain ⟨⟨q,srows0,K0,ds⟩,e2,HM,e3,e⟩:=e
  dsimp only at e e3
  obtain ⟨hqr,e4⟩:=C3 e3
  subst hqr
  subst e4
  dsimp only at e
  split at e
  case isFalse=>cases e
  rename_i SD
  obtain ⟨hd,F1,F2,k1,ho1⟩:=ND h.bx (Bw.refl _) L3 e1
  obtain ⟨hds,E',F3,css,Fs,R,k2,hp,hs,hn⟩:=NK (P:=P) k1.boxes ((Bw.refl _).Rb k1) LP e2
  obtain ⟨m,hm⟩: ∃m,min d ds=m+1:=⟨min d ds-1,by omega⟩
  rw [hm] at e
  obtain ⟨A,W1,p1,ho1'⟩:=Dv (d:=m+1) (by omega) ho1
  obtain ⟨Gs,W2,p2,cb⟩:=hs.weaken (d':=m) (by omega)
  have hB:=k2.boxes.perm (G':=(A++Gs.flatten++(R++F2))++(W1++W2)++[]) (by
   rw [List.append_nil,List.append_nil]
   refine ((hp.trans (p2.append_right R)).append (p1.append_right F2)).trans ?_
   classical
   rw [List.perm_iff_count]
   intro c
   simp only [List.count_append]
   omega)
  obtain ⟨hle,Ja⟩:=hB.share
  have kT:Ch E w σ.bx σ.bx [] _ K0 (A++Gs.flatten++(R++F2)):=⟨(k1.le.trans k2.le).trans hle,k2.len.trans k1.len,fun b B hb=>(k2.within b B hb).elim .inl (k1.within b B),Ja⟩
  have cc:Ow w (fun c=>E'.S c∨c∈W1++W2) (m+1) (.sl q) [a.eval o1] rows A:=
   Bd (fun c hc=>hc.imp (k2.le.S c) (by simp_all)) (fun _ _=>rfl) (fun _ _=>rfl) ho1'
  have aK:Dc w (fun c=>E'.S c∨c∈W1++W2) m q css srows0 Gs:=cb.mono (fun c hc=>hc.imp id (by simp_all)) (fun _ _=>rfl) (fun _ _=>rfl)
  obtain ⟨v,w',E3,hr,r1,r2,r3⟩:=PW hT h (ty:=o.type) T6 UY kI NW kT cc aK hn (List.Perm.refl _) SD
  exact ⟨_,_,_,_,_,.inl (exec hr),r1,r3,r2.any,rfl,e⟩
 ·cases e
end
end Go.Fw
end
section
namespace Go.Fw
theorem P9 {P:Program} {w:World} {b o:Nat} {ty:TypeId} {v:Value} (ht:w.there b o v.cells.toList.length) (hi:(P.info? ty).map (·.size)=some v.cells.toList.length) (h1: ∀u∈v.cells.toList,u.oneCell' =true):
  (Instr.storeAt ty (.pointer (some ⟨b,o,none⟩)) v).run P w= .ok () (w.setCells b o v.cells.toList):=by
 have:=run_storeCells_cells (P:=P) b o v.cells.toList 0 w (fun j hj=>by simpa using (ht j hj).1) (fun j hj=>by simpa using (ht j hj).2) h1
 cases hq:P.info? ty with
 |none=>simp [hq] at hi
 |some i=>
  have hs:v.cells.size=i.size:=by simp [hq] at hi;omega
  simp only [Nat.add_zero] at this
  simp [Instr.storeAt,Instr.sureAddr,storeVar,sizeOf,typeInfo,hq,hs,this]
theorem Lo {E E1 E':Env} {w w':World} {vw Oh Gq:List Bx} {F:mu} (b0:Nat) (k:Ch E w vw vw [] E1 Oh F) (st: ∀c,E.S c→E.T c) (hlen:vw.length≤Gq.length)
  (N4: ∀b d r rows,b≠b0→b<vw.length→Gq[b]? =some (.sl d r rows)→Oh[b]? =some (.sl d r rows)) (Ts: ∀b,b<vw.length→E'.C5 b=E1.C5 b) (MU: ∀b,b<vw.length→E'.DB b=E1.DB b) (hT:E'.T=E1.T) (hS:E'.S=E1.S)
  (hw: ∀c,c<w.heap.size→c∉F→w'.heap[c]? =w.heap[c]?)
  (h0: ∀d r rows,Gq[b0]? =some (.sl d r rows)→ ∃d0 Gw,vw[b0]? =some (.sl d0 r Gw)∧
   ∀p,BA r Gw p→ ∀q ys,Cb r Gw p=some ⟨q,ys⟩→BA r rows p∧(∃Qp,Cb r rows p=some ⟨q,Qp⟩∧List.length Qp=List.length ys)∧
    ∀h,Df w (E.DB b0) p=some h→Df w' (E'.DB b0) p=some h):Hj E w vw E' w' Gq:=by
 have hB:=k.boxes
 obtain ⟨Fs,⟨h1,h2⟩,h3⟩:=hB
 simp only [List.append_nil] at h3
 have Xl: ∀c,E1.T c→w'.heap[c]? =w.heap[c]?:=fun c hc=>hw c (h3.NM c hc) fun hf=>h3.free c (by simp [hf]) hc
 refine ⟨hlen,fun b hb=>by rw [Ts b hb,k.le.C5],fun c hc=>by rw [hT];exact k.le.T c hc,fun c hc=>by rw [hS];exact k.le.S c hc,st,fun c hc=>Xl c (k.le.T c hc),fun b d r rows hb e=> ?_⟩
 by_cases hb0:b=b0
 ·subst hb0
  exact h0 d r rows e
 have e1:=N4 b _ _ _ hb0 hb e
 rcases k.within b _ e1 with e2|e2
 ·cases e2
 ·refine ⟨d,rows,e2,fun p hp q ys hg=>⟨hp,⟨ys,hg,rfl⟩,fun h' hh=> ?_⟩⟩
  have hF:Fs[b]? =some (Fs[b]'(by have:=(List.getElem?_eq_some_iff.1 e1).1;omega)):=List.getElem?_eq_getElem _
  obtain ⟨hd,ho⟩:=h2 b _ _ e1 hF
  rw [MU b hb]
  rw [←k.le.DB] at hh
  refine TH ho (fun c hc=>Xl c (h3.st c hc)) (fun c hc=> ?_) hp hg hh
  have Pn:c∈Fs.flatten:=List.mem_flatten.2 ⟨_,List.mem_of_getElem? hF,hc⟩
  exact hw c (h3.lt c (by simp [Pn])) fun hf=>(List.nodup_append.1 h3.nodup).2.2 c Pn c hf rfl
def Bx.map (f:AV→AV):Bx→Bx
 | .mem cs=> .mem (cs.map f)
 |B=>B
theorem A6.f8 {E E':Env} {w w':World} {vw vw' bx:List Bx} {G:mu} (f:AV→AV) (h:A6 E w vw bx G) (k: ∀x v,VR E w vw x v→VR E' w' vw' (f x) v)
  (hS: ∀c,E.S c→E'.S c) (Ts: ∀b,b<bx.length→E'.C5 b=E.C5 b) (MU: ∀b,b<bx.length→E'.DB b=E.DB b)
  (hw: ∀c,(E.S c∨(¬E.T c∧c∉G))→c<w.heap.size→w'.heap[c]? =w.heap[c]?)
  (X1: ∀F,Sep E w (F++G)→Sep E' w' (F++G)):A6 E' w' vw' (bx.map (Bx.map f)) G:=by
 obtain ⟨Fs,⟨hl,h1⟩,h2⟩:=h
 refine ⟨Fs,⟨by simpa using hl,fun n B F hn hF=> ?_⟩,X1 _ h2⟩
 rw [List.getElem?_map,Option.map_eq_some_iff] at hn
 obtain ⟨B,hn,rfl⟩:=hn
 have Dw:=(List.getElem?_eq_some_iff.1 hn).1
 have h3:=h1 n B F hn hF
 have VA: ∀c∈F,c∈Fs.flatten:=fun c hc=>List.mem_flatten.2 ⟨F,List.mem_of_getElem? hF,hc⟩
 have ak: ∀c∈F,w'.heap[c]? =w.heap[c]?:=fun c hc=>hw c (.inr ⟨h2.free c (by simp [VA c hc]),fun hg=>by
  have:=(List.nodup_append.1 h2.nodup).2.2 c (VA c hc) c hg
  exact this rfl⟩) (h2.lt c (by simp [VA c hc]))
 have Ru: ∀c,E.S c→w'.heap[c]? =w.heap[c]?:=fun c hc=>hw c (.inl hc) (h2.NM c (h2.st c hc))
 cases B with
 |mem cs=>
  obtain ⟨rfl,arr,ty,fr,ha,hu,hv⟩:=h3
  refine ⟨by rw [Ts n Dw],arr,ty,fr,?_,hu,Ai.EW f k hv⟩
  rw [Ts n Dw,ak _ (by simp),ha]
 |sl d r rows=>
  obtain ⟨hd,ho⟩:=h3
  refine ⟨hd,?_⟩
  rw [MU n Dw]
  exact Bd hS Ru ak ho
 |dead=>exact h3
theorem Bx.map_id: ∀B:Bx,Bx.map id B=B
 | .mem cs=>by simp [Bx.map]
 | .sl _ _ _=>rfl
 | .dead=>rfl
theorem K_ (bx:List Bx):bx.map (Bx.map id)=bx:=by
 induction bx with
 |nil=>rfl
 |cons B l ih=>simp [ih,Bx.map_id]
theorem Pm (b:Nat) (bx:List Bx):bx.map (WB b)=bx.map (Bx.map (Dm b)):=by
 apply List.map_congr_left
 intro B _
 cases B<;>rfl
theorem XQ {E:Env} {σ:St} {a:Act} {w:World} (h:Rel E σ a w) {b j:Nat} {cs L6:List AV} (hb:σ.bx[b]? =some (.mem cs)) {xs:List AV} {vs:List Value} (hx:N1 E w σ.bx xs vs) (PZ:xs≠[])
  (e:Jh cs j xs=some L6):
  w.there (E.C5 b) j vs.length∧Rel E { σ with bx:=σ.bx.set b (.mem L6) } a (w.setCells (E.C5 b) j vs)∧G8 [b] E σ.bx w E (σ.bx.set b (.mem L6)) (w.setCells (E.C5 b) j vs):=by
 have st:=h.bx.st
 obtain ⟨F,⟨rfl,arr,ty,fr,ha,hu,hv⟩,hB⟩:=h.bx.take hb
 simp only [List.append_nil] at hB
 have Dw:=(List.getElem?_eq_some_iff.1 hb).1
 rcases J0 hv hx e with ⟨h1,h2⟩|⟨h1,_⟩
 case inr=>exact absurd h1 PZ
 have LB:j+vs.length≤arr.size:=by
  have l1:=Ai.len hv
  have l2:=Ai.len hx
  simp only [Array.length_toList] at l1
  omega
 have JD: ¬E.T (E.C5 b):=hB.YG _ (by simp)
 have d9:=hB
 have Lu: ∀c,c≠E.C5 b→(w.setCells (E.C5 b) j vs).heap[c]? =w.heap[c]?:=fun c hc=>EU _ _ _ _ _ hc
 have hw: ∀c,c<w.heap.size→c∉[E.C5 b]→(w.setCells (E.C5 b) j vs).heap[c]? =w.heap[c]?:=fun c _ hc=>Lu c (by simpa using hc)
 have kT:Ch E w σ.bx σ.bx [] E (σ.bx.set b .dead) [E.C5 b]:=⟨Le.refl _,by simp,fun n B hn=>by
  by_cases en:n=b
  ·subst en
   rw [List.getElem?_set_self Dw] at hn
   exact .inl (by simpa using hn.symm)
  ·rw [List.getElem?_set_ne (fun h=>en h.symm)] at hn
   exact .inr hn,by simpa using hB⟩
 have GM:Hj E w σ.bx E (w.setCells (E.C5 b) j vs) (σ.bx.set b (.mem L6)):=Lo b kT st (by simp) (fun n d r rows hn _ hq=>by
   rw [List.getElem?_set_ne (by omega)] at hq⊢;exact hq) (fun _ _=>rfl) (fun _ _=>rfl) rfl rfl hw (fun d r rows hq=>by
   rw [List.getElem?_set_self Dw] at hq;cases hq)
 refine ⟨Of ha LB hu,⟨h.FL,h.tm.imp fun _ _ hq=>F5 GM hq,?_⟩,⟨⟨fun _ h=>h,fun _ h=>h,fun _ h=> .inl h,fun _ h=> .inl h,fun c hc=>Lu c (fun e=>JD (e▸hc)),(BC _ _ _ _).os,(BC _ _ _ _).tape,(BC _ _ _ _).output,(BC _ _ _ _).size⟩,by simp,fun _ _=>⟨rfl,rfl⟩,fun n hn=>by
  rw [List.getElem?_set_ne (fun e=>by subst e;rw [hb] at hn;cases hn)];exact hn,fun n B B' Rv hB Hg WA=>by
  simp at Rv
  rw [List.getElem?_set_ne (fun e=>Rv e.symm),hB] at Hg
  cases Hg
  refine ⟨I4.refl WA,fun c hc=>Lu c (fun e=> ?_)⟩
  obtain ⟨Fs,⟨f1,f2⟩,f3⟩:=d9
  have Ja:(σ.bx.set b .dead)[n]? =some B:=by rw [List.getElem?_set_ne (fun e=>Rv e.symm)];exact hB
  have hF:Fs[n]? =some (Fs[n]'(by have:=(List.getElem?_eq_some_iff.1 Ja).1;omega)):=List.getElem?_eq_getElem _
  rcases Mz (f2 n B _ Ja hF) hc with hs|hs
  ·exact JD (e▸st c hs)
  ·exact (List.nodup_append.1 f3.nodup).2.2 c (List.mem_flatten.2 ⟨_,List.mem_of_getElem? hF,hs⟩) (E.C5 b) (by simp) e⟩⟩
 have hT:=hB.turn (E':=E) (w':=w.setCells (E.C5 b) j vs) (vw':=σ.bx.set b (.mem L6)) (fun x v hq=>CS GM hq) (fun _ h=>h) (fun _ _=>rfl) (fun _ _=>rfl) (fun c hc _=>Lu c (fun e=>by
   rcases hc with hc|hc
   ·exact JD (e▸st c hc)
   ·exact hc.2 (by simp [e]))) (fun F hF=>⟨hF.nodup,hF.free,fun c hc=>by rw [Co];exact hF.lt c hc,hF.st,fun c hc=>by rw [Co];exact hF.NM c hc⟩)
 have:=A6.put (b:=b) (B:= .mem L6) (F:=[E.C5 b]) (G:=[]) (by simpa using hT) (by rw [List.getElem?_set_self Dw]) ⟨rfl,CL arr j vs,ty,fr,D9 _ _ _ _ _ _ _ ha,by rw [EB];exact hu,h1.imp fun _ _ hq=>CS GM hq⟩
 rw [List.set_set] at this
 exact this
theorem Jj: ∀{r:Ty} {j j':Nat} {x:r.D} {t:Ty} {y:t.D} {x':r.D},BR r j x t y=some x'→j'≠j→AR r j' x' =AR r j' x
 | .cons c r,0,j',x,t,y,x',e,hj=>by
  simp only [BR] at e
  split at e
  ·rename_i h
   subst h
   simp only [Option.some.injEq] at e
   subst e
   cases j' with
   |zero=>exact absurd rfl hj
   |succ j' =>simp [AR]
  ·cases e
 | .cons c r,j+1,j',x,t,y,x',e,hj=>by
  simp only [BR,Option.map_eq_some_iff] at e
  obtain ⟨z,e1,rfl⟩:=e
  cases j' with
  |zero=>simp [AR]
  |succ j' =>
   simp only [AR]
   exact Jj e1 (by omega)
 | .unit,_,_,_,_,_,_,e,_=>by simp [BR] at e
 | .int k,0,j',x,t,y,x',e,hj=>by cases j' with
  |zero=>exact absurd rfl hj
  |succ j' =>simp [AR]
 | .bool,0,j',x,t,y,x',e,hj=>by cases j' with
  |zero=>exact absurd rfl hj
  |succ j' =>simp [AR]
 | .str,0,j',x,t,y,x',e,hj=>by cases j' with
  |zero=>exact absurd rfl hj
  |succ j' =>simp [AR]
 | .sl _,0,j',x,t,y,x',e,hj=>by cases j' with
  |zero=>exact absurd rfl hj
  |succ j' =>simp [AR]
 | .int _,_+1,_,_,_,_,_,e,_=>by simp [BR] at e
 | .bool,_+1,_,_,_,_,_,e,_=>by simp [BR] at e
 | .str,_+1,_,_,_,_,_,e,_=>by simp [BR] at e
 | .sl _,_+1,_,_,_,_,_,e,_=>by simp [BR] at e
theorem Io: ∀{r:Ty} {j:Nat} {x:r.D} {t:Ty} {y:t.D} {x':r.D},BR r j x t y=some x'→AR r j x' =some ⟨t,y⟩∧ ∃y0:t.D,AR r j x=some ⟨t,y0⟩
 | .cons c r,0,x,t,y,x',e=>by
  simp only [BR] at e
  split at e
  ·rename_i h
   subst h
   simp only [Option.some.injEq] at e
   subst e
   exact ⟨rfl,_,rfl⟩
  ·cases e
 | .cons c r,j+1,x,t,y,x',e=>by
  simp only [BR,Option.map_eq_some_iff] at e
  obtain ⟨z,e1,rfl⟩:=e
  simp only [AR]
  exact Io e1
 | .unit,_,_,_,_,_,e=>by simp [BR] at e
 | .int k,0,x,t,y,x',e=>by
  simp only [BR] at e
  split at e
  ·rename_i h;subst h;cases e;exact ⟨rfl,_,rfl⟩
  ·cases e
 | .bool,0,x,t,y,x',e=>by
  simp only [BR] at e
  split at e
  ·rename_i h;subst h;cases e;exact ⟨rfl,_,rfl⟩
  ·cases e
 | .str,0,x,t,y,x',e=>by
  simp only [BR] at e
  split at e
  ·rename_i h;subst h;cases e;exact ⟨rfl,_,rfl⟩
  ·cases e
 | .sl _,0,x,t,y,x',e=>by
  simp only [BR] at e
  split at e
  ·rename_i h;subst h;cases e;exact ⟨rfl,_,rfl⟩
  ·cases e
 | .int _,_+1,_,_,_,_,e=>by simp [BR] at e
 | .bool,_+1,_,_,_,_,e=>by simp [BR] at e
 | .str,_+1,_,_,_,_,e=>by simp [BR] at e
 | .sl _,_+1,_,_,_,_,e=>by simp [BR] at e
theorem PD {r:Ty} {rows:List r.D} {i k:Nat} {x:r.D} (hi:i<rows.length):rowAt r (rows.set i x) k=if k=i then x else rowAt r rows k:=by
 unfold rowAt
 rw [List.getD_eq_getElem?_getD,List.getD_eq_getElem?_getD,List.getElem?_set]
 by_cases e:k=i
 ·subst e;simp [hi]
 ·rw [if_neg (fun h=>e h.symm),if_neg e]
theorem RW: ∀{p:List Pd} {r:Ty} {rows Av:List r.D} {q:Ty} {ys Qp:List q.D},Cb r rows p=some ⟨q,ys⟩→Qp.length=ys.length→Qe r rows p q Qp=some Av→Av.length=rows.length
 |[],r,rows,Av,q,ys,Qp,h1,h2,h3=>by
  simp only [Cb,Option.some.injEq,Sigma.mk.injEq] at h1
  obtain ⟨rfl,h1⟩:=h1
  obtain rfl:=eq_of_heq h1
  simp only [Qe,dite_true,G6,Option.some.injEq] at h3
  rw [←h3];exact h2
 |s::p,r,rows,Av,q,ys,Qp,h1,h2,h3=>by
  simp only [Qe] at h3
  split at h3
  ·simp only [Option.bind_eq_some_iff,Option.map_eq_some_iff] at h3
   obtain ⟨_,_,_,_,rfl⟩:=h3
   simp
  ·cases h3
theorem PU {t:Ty} (ht:t.scalar=true) {y:t.D} {q:Ty} {i j:Nat}: ∀{p':List Pd} {r:Ty} {rows Av:List r.D} {p:List Pd} {ys:List q.D} {K7:q.D},BA r rows p→Cb r rows p=some ⟨q,ys⟩→i<ys.length→
  BR q j (rowAt q ys i) t y=some K7→Qe r rows p q (ys.set i K7)=some Av→BA r rows p'→ ∀q' zs,Cb r rows p' =some ⟨q',zs⟩→
   BA r Av p'∧ ∃zs',Cb r Av p' =some ⟨q',zs'⟩∧List.length zs' =List.length zs
 |[],r,rows,Av,p,ys,K7,_,hg,hi,hc,hs,_,q',zs,VO=>by
  simp only [Cb,Option.some.injEq,Sigma.mk.injEq] at VO
  obtain ⟨rfl,VO⟩:=VO
  obtain rfl:=eq_of_heq VO
  exact ⟨by simp [BA],Av,by simp [Cb],RW hg (by simp) hs⟩
 |s'::p',r,rows,Av,p,ys,K7,hp,hg,hi,hc,hs,ae,q',zs,VO=>by
  have hlen:=RW hg (by simp) hs
  simp only [BA] at ae⊢
  obtain ⟨g1,g2,g3⟩:=ae
  simp only [Cb] at VO⊢
  split at VO
  case h_2=>cases VO
  rename_i q0 x0 MQ
  rw [MQ] at g3
  dsimp only at g3
  have key: ∃x1,AR r s'.j (rowAt r Av s'.i)=some ⟨.sl q0,x1⟩∧BA q0 x1 p'∧ ∃zs',Cb q0 x1 p' =some ⟨q',zs'⟩∧List.length zs' =List.length zs:=by
   have same:AR r s'.j (rowAt r Av s'.i)=some ⟨.sl q0,x0⟩→ ∃x1,AR r s'.j (rowAt r Av s'.i)=some ⟨.sl q0,x1⟩∧BA q0 x1 p'∧ ∃zs',Cb q0 x1 p' =some ⟨q',zs'⟩∧List.length zs' =List.length zs:=
    fun h=>⟨x0,h,g3,zs,VO,rfl⟩
   cases p with
   |nil=>
    simp only [Cb,Option.some.injEq,Sigma.mk.injEq] at hg
    obtain ⟨rfl,hg⟩:=hg
    obtain rfl:=eq_of_heq hg
    simp only [Qe,dite_true,G6,Option.some.injEq] at hs
    subst hs
    apply same
    rw [PD hi]
    split
    ·rename_i e
     subst e
     by_cases ej:s'.j=j
     ·obtain ⟨_,y0,h0⟩:=Io hc
      rw [ej,h0] at MQ
      simp only [Option.some.injEq,Sigma.mk.injEq] at MQ
      obtain ⟨rfl,_⟩:=MQ
      simp [Ty.scalar] at ht
     ·rw [Jj hc ej];exact MQ
    ·exact MQ
   |cons s p=>
    simp only [BA] at hp
    obtain ⟨k1,k2,k3⟩:=hp
    simp only [Cb] at hg
    split at hg
    case h_2=>cases hg
    rename_i r' x jU
    rw [jU] at k3
    dsimp only at k3
    simp only [Qe,jU,Option.bind_eq_some_iff,Option.map_eq_some_iff] at hs
    obtain ⟨x',cA,row2,aK,rfl⟩:=hs
    rw [PD k1]
    rw [PD k1] at same
    split
    ·rename_i e
     rw [if_pos e] at same
     rw [e] at MQ
     by_cases ej:s'.j=s.j
     ·rw [ej] at MQ⊢
      rw [jU] at MQ
      simp only [Option.some.injEq,Sigma.mk.injEq,Ty.sl.injEq] at MQ
      obtain ⟨rfl,MQ⟩:=MQ
      obtain rfl:=eq_of_heq MQ
      obtain ⟨m1,m2⟩:=PU ht k3 hg hi hc cA g3 q' zs VO
      exact ⟨x',(Io aK).1,m1,m2⟩
     ·exact same (by rw [Jj aK ej];exact MQ)
    ·rename_i e
     rw [if_neg e] at same
     exact same MQ
  obtain ⟨x1,e1,e2,e3⟩:=key
  rw [e1]
  exact ⟨⟨by omega,g2,e2⟩,e3⟩
theorem S6 {w w':World} {B:Nat→Prop} (KU: ∀A,w'.cell? A=w.cell? A∨ ∃v,w'.cell? A=some v∧isSlice v=false): ∀{p:List Pd} {r:Ty} {h:Value} {rows:List r.D} {hh:Value},
  Rd w' B (.sl r) [h] rows→BA r rows p→Df w h p=some hh→Df w' h p=some hh
 |[],_,h,_,hh,_,_,e=>by rw [Aw] at e⊢;exact e
 |s::p,r,h,rows,hh,hr,hp,e=>by
  simp only [BA] at hp
  obtain ⟨hi,GN,hp⟩:=hp
  simp only [Rd] at hr
  obtain ⟨a,cap,e1,_,hr⟩:=hr
  obtain rfl:=(List.cons.inj e1).1
  rcases hr with hr|⟨b,o,rfl,hb,hr⟩
  ·omega
  obtain ⟨cs,hl,hc,hrow⟩:=hr s.i _ (G2 hi)
  split at hp
  case h_2=>exact hp.elim
  rename_i q x MQ
  obtain ⟨v,hv,hrv⟩:=Mw hrow MQ
  have ax:=hc _ _ hv
  rw [←GN] at ax
  simp only [Df] at e⊢
  split at e
  case h_2=>cases e
  rename_i v0 jv
  rcases KU ⟨b,o+s.i*s.sz+s.j,none⟩ with h1|⟨u,h1,h2⟩
  ·rw [h1,jv]
   rw [h1,jv] at ax
   cases ax
   exact S6 KU hrv hp e
  ·rw [ax] at h1
   cases h1
   simp only [Rd] at hrv
   obtain ⟨_,_,e2,_⟩:=hrv
   simp only [List.cons.injEq,and_true] at e2
   subst e2
   simp [isSlice] at h2
theorem YO {E E':Env} {w w':World} {vw vw':List Bx} {b d d':Nat} {r:Ty} {rows Av:List r.D} (k:Hj E w vw E' w' (vw'.set b .dead)) (hb:vw[b]? =some (.sl d r rows)) (VU:vw'[b]? =some (.sl d' r Av)) (hl:Av.length=rows.length)
  (hh:E'.DB b=E.DB b) {x:AV} {v:Value} (h:VR E w vw x v):VR E' w' vw' (Dm b x) v:=by
 have h1:=CS k h
 have Lu: ∀{b'},b'≠b→(vw'.set b .dead)[b']? =vw'[b']?:=fun e=>List.getElem?_set_ne (fun h=>e h.symm)
 cases x with
 |v t x=>exact h1
 |sl s r x=>exact h1
 |nil=>exact h1
 |C2 c j=>exact ⟨by simpa using h1.1,h1.2⟩
 |FU s r x j=>exact h1
 |fn f Dr=>exact ⟨fun c hc=>by simpa using h1.1 c hc,h1.2⟩
 |Sj f rows=>exact h1
 |VX=>exact h1
 |undef=>trivial
 |ref c p=>
  cases p with
  |nil=>
   simp only [Dm]
   by_cases e:c=b
   ·subst e
    simp only [VR,hb,VU] at h⊢
    refine ⟨h.1,by simp [BA],⟨_,rfl⟩,?_⟩
    rw [Aw,hh,←Aw (w:=w) (h:=E.DB c)]
    exact h.2.2.2
   ·simp only [VR,Lu e] at h1⊢;exact h1
  |cons s p=>
   simp only [Dm]
   split
   ·trivial
   ·rename_i e
    simp only [VR,Lu e] at h1⊢;exact h1
 |NB c p off n=>
  cases p with
  |nil=>
   simp only [Dm]
   by_cases e:c=b
   ·subst e
    simp only [VR,hb,VU] at h⊢
    obtain ⟨h0,_,q,ys,a,len,cap,e1,e2,e3,e4⟩:=h
    simp only [Cb,Option.some.injEq,Sigma.mk.injEq] at e1
    obtain ⟨rfl,e1⟩:=e1
    obtain rfl:=eq_of_heq e1
    refine ⟨h0,by simp [BA],r,Av,a,len,cap,rfl,by rw [hl];exact e2,?_,e4⟩
    rw [Aw,hh,←Aw (w:=w) (h:=E.DB c)]
    exact e3
   ·simp only [VR,Lu e] at h1⊢;exact h1
  |cons s p=>
   simp only [Dm]
   split
   ·trivial
   ·rename_i e
    simp only [VR,Lu e] at h1⊢;exact h1
 |Di c p i sz j=>
  cases p with
  |nil=>
   simp only [Dm]
   by_cases e:c=b
   ·subst e
    simp only [VR,hb,VU] at h⊢
    obtain ⟨h0,_,q,ys,bb,o,len,cap,e1,e2,e3,e4⟩:=h
    simp only [Cb,Option.some.injEq,Sigma.mk.injEq] at e1
    obtain ⟨rfl,e1⟩:=e1
    obtain rfl:=eq_of_heq e1
    refine ⟨h0,by simp [BA],r,Av,bb,o,len,cap,rfl,by rw [hl];exact e2,?_,e4⟩
    rw [Aw,hh,←Aw (w:=w) (h:=E.DB c)]
    exact e3
   ·simp only [VR,Lu e] at h1⊢;exact h1
  |cons s p=>
   simp only [Dm]
   split
   ·trivial
   ·rename_i e
    simp only [VR,Lu e] at h1⊢;exact h1
theorem Yz {E E':Env} {w w':World} {vw vw':List Bx} {b:Nat} (k: ∀x v,VR E w vw x v→VR E' w' vw' (Dm b x) v) {x:XV} {v:Value} (h:XR E w vw x v):XR E' w' vw' (To b x) v:=by
 cases x with
 |c x=>exact k x v h
 |agg l=>
  obtain ⟨vs,rfl,J9⟩:=h
  exact ⟨vs,rfl,Ai.EW _ k J9⟩
 |Hi l=>
  obtain ⟨vs,rfl,J9⟩:=h
  refine ⟨vs,rfl,Ai.EW _ (fun x v hx=> ?_) J9⟩
  cases x with
  |inl x=>exact k x v hx
  |inr q=>
   obtain ⟨us,rfl,hus⟩:=hx
   exact ⟨us,rfl,Ai.EW _ k hus⟩
end Go.Fw
end
