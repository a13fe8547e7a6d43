/- The framework, part 2: a checked interpreter of the model's code over abstract states; no claim is made here. -/
import Derived.Test.YtdkfcaidapdecaaGreatF0
import Derived.Below
import Derived.ChangeArms
import Derived.ChangeOld
import Derived.DataReads
import Derived.OrdersHeld
import Derived.Shelf.Slices.Delete
import Derived.Shelf.Spec.SlicesInsertGrow
import Derived.Tactics
set_option linter.unusedVariables false
set_option linter.unusedSimpArgs false
set_option linter.unusedSectionVars false
section
namespace Go.Fw
def alive(l:List BP)(i:Nat):Bool:=
 match l[i]? with
 |some .gone=>false
 |some _=>true
 |none=>false
def AP.ML(l:List BP):AP→Bool
 | .sl s _=>s
 | .mG _=>false
 | .jy _ _=>false
 | .qP _ _=>false
 | .ref i=>decide (i<l.length)
 | .ptr i _=>alive l i
 | .fn _ Kk=>Kk.all (alive l)
 |_=>true
def XP.ML(l:List BP):XP→Bool
 | .c p=>p.ML l
 | .agg q=>q.all (AP.ML l)
 | .Nr q=>q.all fun| .inl p=>p.ML l| .inr q=>q.all (AP.ML l)
 | .row _=>false
def BP.ML(l:List BP):BP→Bool
 | .mem q=>q.all (AP.ML l)
 |_=>true
def kinds:List BP→List BP→Bool
 |[],_=>true
 | .mem _::l,.mem _::m=>kinds l m
 | .sl _ r::l,.sl _ q::m=>decide (r=q)&&kinds l m
 | .mem _::l,.gone::m=>kinds l m
 | .sl _ _::l,.gone::m=>kinds l m
 |_,_=>false
def j9(l:List BP):List (Nat×XP)→Bool
 |[(0,p)]=>p.ML l
 |_=>false
def QB.ok(c:QB):Bool:=
 kinds c.ins.G3 c.outs.G3&&j9 c.outs.G3 c.outs.EM&&c.outs.G3.all (BP.ML c.outs.G3)
theorem XW:∀{l m:List BP},kinds l m=true→l.length≤m.length∧ ∀(i:Nat) p,l[i]? =some p→p≠ .gone∧ ∀d r,m[i]? =some (.sl d r)→ ∃d',p= .sl d' r
 |[],m,_=>⟨by simp,fun i p h=>by simp at h⟩
 | .gone::l,[],h=>by simp[kinds]at h
 | .gone::l,_::_,h=>by simp[kinds]at h
 | .mem _::l,[],h=>by simp[kinds]at h
 | .sl _ _::l,[],h=>by simp[kinds]at h
 | .mem q::l,.mem _::m,h=>by
  obtain⟨h1,h2⟩:=XW (l:=l) (m:=m) (by simpa[kinds]using h);grind
 | .mem q::l,.gone::m,h=>by
  obtain⟨h1,h2⟩:=XW (l:=l) (m:=m) (by simpa[kinds]using h);grind
 | .mem q::l,.sl _ _::m,h=>by simp[kinds]at h
 | .sl d0 r0::l,.sl _ q::m,h=>by
  simp only[kinds,AMY,AOV]at h;obtain⟨h1,h2⟩:=XW (l:=l) (m:=m) h.2;grind
 | .sl d0 r0::l,.gone::m,h=>by
  obtain⟨h1,h2⟩:=XW (l:=l) (m:=m) (by simpa[kinds]using h);grind
 | .sl _ _::l,.mem _::m,h=>by simp[kinds]at h
def W0(P:Program)(f:Nat)(c:QB):Prop:=
 c.ok=true∧(∀args w,(callFunc f args).run P w= .ok (.enter f args) w)∧
 ∀(E:Env) (w:World) (v:c.ins.V) (args:Array Value) (u:c.outs.V),args.size=c.ins.EM.length→
  C7 E w (J1.mk id c.ins.G3 v.2) (J1.mk id c.ins.G3 v.2) []→OS E w (J1.mk id c.ins.G3 v.2) id c.ins.EM v.1 args.toList→c.g v=some u→
  Calls P f args w fun e w' => ∃x E',e= .returned x∧dA E w E' w'∧C7 E' w' (J1.mk id c.outs.G3 u.2) (J1.mk id c.outs.G3 u.2) []∧
   OS E' w' (J1.mk id c.outs.G3 u.2) id c.outs.EM u.1 [x]∧ ∀i,i<c.ins.G3.length→alive c.outs.G3 i=true→E'.ID i=E.ID i∧E'.IE i=E.IE i
theorem im:∀x:AV,Gm [] x=x
 | .ref b (s::p)=>by rfl
 | .ref b []=>rfl
 | .win b (s::p) i n=>by rfl
 | .win b [] i n=>rfl
 | .Jk b (s::p) i sz j=>by rfl
 | .Jk b [] i sz j=>rfl
 | .v _ _=>rfl
 | .sl _ _ _=>rfl
 | .nil=>rfl
 | .Im _ _=>rfl
 | .Pg _ _ _ _=>rfl
 | .fn _ _=>rfl
 | .qP _ _=>rfl
 | .xj=>rfl
 | .undef=>rfl
theorem Za:Gm []=id:=funext im
theorem tF:∀x:XV,U_ [] x=x
 | .c x=>by simp[U_,im]
 | .agg l=>by simp[U_,Za]
 | .Nr l=>by
  simp only[U_,Za];congr 1
  conv=>rhs;rw[←AWd l]
  apply ASA;intro x _;cases x with
  |inl x=>simp
  |inr q=>simp
theorem rZ(m:Pm)(σ:St):(σ.ZP m).tm=σ.tm.map (U_ m):=by
 cases m with
 |nil=>
  simp only[St.ZP];have:U_ []=id:=funext tF;simp_all
 |cons _ _=>rfl
theorem ABM(m:Pm)(σ:St):(σ.ZP m).bx=σ.bx.map (Bx.map (Gm m)):=by
 cases m with
 |nil=>grind[St.ZP,Za,aR]
 |cons _ _=>
  rfl
theorem dZ(f:AV→AV):∀(m:Pm) (bx:List Bx),Ct (bx.map (Bx.map f)) m=(Ct bx m).map (Bx.map f)
 |[],_=>rfl
 |none::m,bx=>by simp only[Ct];exact dZ f m bx
 |some b::m,bx=>by
  simp only[Ct];rw[←dZ f m (bx.set b .dead),List.map_set];rfl
theorem RD:∀{m:Pm} {bx:List Bx} {b:Nat},some b∉m→(Ct bx m)[b]? =bx[b]?
 |[],_,_,_=>rfl
 |none::m,bx,b,h=>by simp only[Ct];exact RD (by simp_all)
 |some c::m,bx,b,h=>by
  simp only[Ct];rw[RD (by simp_all),ARd (by grind)]
theorem AAt{E E':Env}{w w':World}{vw vw':List Bx}{m:Pm}(k:TF E w vw E' w' (Ct vw' m))
  (hb:∀b d' r Cz,some b∈m→vw'[b]? =some (.sl d' r Cz)→ ∃d rows,vw[b]? =some (.sl d r rows)∧List.length Cz=List.length rows∧E'.IE b=E.IE b) (hlen:vw.length≤vw'.length) {x:AV} {v:Value} (h:VR E w vw x v):VR E' w' vw' (Gm m x) v:=by
 have h1:=GU k h;have dX:∀{b'},some b'∉m→(Ct vw' m)[b']? =vw'[b']?:=fun e=>RD e
 have get:∀{b'},b'<vw.length→ ∃B,vw'[b']? =some B:=fun hl=>⟨_,AMJ (by omega)⟩
 cases x with
 |v t x=>exact h1
 |sl s r x=>exact h1
 |nil=>exact h1
 |Im c j=>exact⟨by simpa[Ky]using h1.1,h1.2⟩
 |Pg s r x j=>exact h1
 |fn f Kk=>exact⟨fun c hc=>by simpa[Ky]using h1.1 c hc,h1.2⟩
 |qP f rows=>exact h1
 |xj=>exact h1
 |undef=>trivial
 |ref c p=>
  have other:some c∉m→VR E' w' vw' (.ref c p) v:=fun e=>by
   grind[VR]
  cases p with
  |nil=>
   simp only[Gm];by_cases e:some c∈m
   ·simp only[VR]at h⊢
    obtain⟨h0,h⟩:=h;refine⟨h0,?_⟩;cases hc:vw[c]? with
    |none=>simp_all
    |some B=>
     obtain⟨B',T3⟩:=get (AMX.1 hc).1;rw[T3];cases B' with
     |mem cs=>trivial
     |dead=>trivial
     |sl d' r Cz=>
      obtain⟨d,rows,e1,e2,e3⟩:=hb c d' r Cz e T3;rw[e1]at h;refine⟨by simp[DG],⟨_,rfl⟩,?_⟩;grind[DB]
   simp_all
  |cons s p=>
   simp only[Gm];split
   ·trivial
   simp_all
 |win c p off n=>
  have other:some c∉m→VR E' w' vw' (.win c p off n) v:=fun e=>by
   grind[VR]
  cases p with
  |nil=>
   simp only[Gm];by_cases e:some c∈m
   ·simp only[VR]at h⊢
    obtain⟨h0,h⟩:=h;refine⟨h0,?_⟩;cases hc:vw[c]? with
    |none=>simp_all
    |some B=>
     obtain⟨B',T3⟩:=get (AMX.1 hc).1;rw[T3];cases B' with
     |mem cs=>trivial
     |dead=>trivial
     |sl d' r Cz=>
      obtain⟨d,rows,e1,e2,e3⟩:=hb c d' r Cz e T3;rw[e1]at h;obtain⟨_,q,ys,a,len,cap,g1,g2,g3,g4⟩:=h;simp only[HE,AMO,APl]at g1;obtain⟨rfl,g1⟩:=g1;obtain rfl:=ARM g1;rw[DB]at g3;exact⟨by simp[DG],r,Cz,a,len,cap,rfl,by omega,by grind[DB],g4⟩
   simp_all
  |cons s p=>
   simp only[Gm];split
   ·trivial
   simp_all
 |Jk c p i sz j=>
  have other:some c∉m→VR E' w' vw' (.Jk c p i sz j) v:=fun e=>by
   grind[VR]
  cases p with
  |nil=>
   simp only[Gm];by_cases e:some c∈m
   ·simp only[VR]at h⊢
    obtain⟨h0,h⟩:=h;refine⟨h0,?_⟩;cases hc:vw[c]? with
    |none=>simp_all
    |some B=>
     obtain⟨B',T3⟩:=get (AMX.1 hc).1;rw[T3];cases B' with
     |mem cs=>trivial
     |dead=>trivial
     |sl d' r Cz=>
      obtain⟨d,rows,e1,e2,e3⟩:=hb c d' r Cz e T3;rw[e1]at h;obtain⟨_,q,ys,bb,o,len,cap,g1,g2,g3,g4⟩:=h;simp only[HE,AMO,APl]at g1;obtain⟨rfl,g1⟩:=g1;obtain rfl:=ARM g1;rw[DB]at g3;exact⟨by simp[DG],r,Cz,bb,o,len,cap,rfl,by omega,by grind[DB],g4⟩
   simp_all
  |cons s p=>
   simp only[Gm];split
   ·trivial
   simp_all
theorem zp{E E':Env}{w w':World}{vw vw':List Bx}{m:Pm}(k:∀x v,VR E w vw x v→VR E' w' vw' (Gm m x) v){x:XV}{v:Value}(h:XR E w vw x v):XR E' w' vw' (U_ m x) v:=by
 cases x with
 |c x=>exact k x v h
 |agg l=>
  obtain⟨vs,rfl,V6⟩:=h;exact⟨vs,rfl,CX.MA _ k V6⟩
 |Nr l=>
  obtain⟨vs,rfl,V6⟩:=h;refine⟨vs,rfl,CX.MA _ (fun x v hx=> ?_) V6⟩;cases x with
  |inl x=>exact k x v hx
  |inr q=>
   obtain⟨us,rfl,hus⟩:=hx;exact⟨us,rfl,CX.MA _ k hus⟩
def Lv(JT:Nat→Nat):Nat→List Bx→List Bx→List Bx
 |_,[],bx=>bx
 |i,B::l,bx=>Lv JT (i+1) l (if JT i<bx.length then bx.set (JT i) B else bx++[B])
theorem lM(JT:Nat→Nat):∀(i:Nat) (l:List BP) (x:J1.V l) (bx:List Bx),aD JT i l x bx=Lv JT i (J1.mk JT l x) bx
 |_,[],_,_=>rfl
 |i,p::l,x,bx=>by simp only[aD,J1.mk,Lv];exact lM JT (i+1) l x.2 _
structure uc (JT:Nat→Nat) (M N:Nat):Prop where
 lt:∀k,k<M→JT k<N
 eq:∀k,M≤k→JT k=N+(k-M)
 inj:∀k k',k<M→k'<M→JT k=JT k'→k=k'
theorem uc.AUI{JT:Nat→Nat}{M N:Nat}(h:uc JT M N){k k':Nat}(e:JT k=JT k'):k=k':=by
 by_cases h1:k<M
 ·by_cases h2:k'<M
  ·exact h.inj k k' h1 h2 e
  ·have:=h.lt k h1
   have:=h.eq k' (by omega);omega
 ·by_cases h2:k'<M
  ·have:=h.lt k' h2
   have:=h.eq k (by omega);omega
  ·have:=h.eq k (by omega)
   have:=h.eq k' (by omega);omega
theorem fL{JT:Nat→Nat}{M N:Nat}(h:uc JT M N):∀{l:List Bx} {i:Nat} {bx:List Bx},bx.length=N+(i-M)→
  (Lv JT i l bx).length=N+(i+l.length-M)∧(∀(j:Nat) B,l[j]? =some B→(Lv JT i l bx)[JT (i+j)]? =some B)∧
   ∀n,n<bx.length→(∀j,j<l.length→JT (i+j)≠n)→(Lv JT i l bx)[n]? =bx[n]?
 |[],i,bx,hl=>⟨by grind[Lv],fun j B hj=>by simp_all,fun _ _ _=>rfl⟩
 |B::l,i,bx,hl=>by
  simp only[Lv];have ij:(if JT i<bx.length then bx.set (JT i) B else bx++[B]).length=N+(i+1-M):=by
   split
   ·rename_i FW
    by_cases hi:i<M
    ·grind
    ·have:=h.eq i (by omega);omega
   ·rename_i FW
    by_cases hi:i<M
    ·have:=h.lt i hi;omega
    grind
  have Zu:(if JT i<bx.length then bx.set (JT i) B else bx++[B])[JT i]? =some B:=by
   split
   ·simp_all
   ·rename_i FW
    by_cases hi:i<M
    ·grind
    ·have:=h.eq i (by omega)
     grind
  obtain⟨q1,q2,q3⟩:=fL h (l:=l) ij;refine⟨by grind,fun j C hj=> ?_,fun n hn ax=> ?_⟩
  ·cases j with
   |zero=>
    simp at hj;subst hj;exact(q3 (JT i) (AMX.1 Zu).1 (fun j hj e=>by have:=h.AUI e;omega)).trans Zu
   |succ j=>
    grind
  ·have AXw:=ax 0 (by simp)
   rw[ASI]at AXw;rw[q3 n (by omega) (fun j hj=>by have:=ax (j+1) (by simp_all);grind)];grind
theorem df{JT:Nat→Nat}{M N:Nat}(h:uc JT M N){E:Env}{w:World}{vw:List Bx}:∀{l:List Bx} {i:Nat} {bx:List Bx} {Fs:List ABH},bx.length=N+(i-M)→(∀k,i≤k→k<M→bx[JT k]? =some .dead)→
  Fs.length=l.length→(∀(j:Nat) B F,l[j]? =some B→Fs[j]? =some F→pE E w vw (JT (i+j)) B F)→C7 E w vw bx Fs.flatten→C7 E w vw (Lv JT i l bx) []
 |[],i,bx,Fs,hl,hd,hF,hB,uB=>by
  grind[List.eq_nil_of_length_eq_zero,Lv]
 |B::l,i,bx,F::Fs,hl,hd,hF,hB,uB=>by
  simp only[Lv];have hBi:=hB 0 B F rfl rfl;rw[ASI]at hBi;have next:∀{Qu},Qu.length=N+(i+1-M)→(∀k,i+1≤k→k<M→Qu[JT k]? =some .dead)→C7 E w vw Qu Fs.flatten→C7 E w vw (Lv JT (i+1) l Qu) []:=by
   intro Qu h1 h2 h3;refine df h h1 h2 (by simp_all) (fun j C G hC hG=> ?_) h3;have:=hB (j+1) C G (by simp_all) (by simp_all);grind
  rw[ASK]at uB;by_cases hi:i<M
  ·have FW:=h.lt i hi
   rw[AME (by omega)];refine next (by grind) (fun k hk1 hk2=> ?_) (uB.put (hd i (AP3 _) hi) hBi);rw[ARd (fun e=>by have:=h.AUI e;omega)];grind
  ·have heq:=h.eq i (by omega)
   rw[AMG (by omega)];have e1:JT i=bx.length:=by omega
   rw[e1]at hBi;exact next (by grind) (fun k hk1 hk2=>by omega) (uB.push hBi)
 |_::_,_,_,[],_,_,hF,_,_=>by simp_all
structure tf (E' E2:Env) (l:List BP) (u:J1.V l) (vw2:List Bx) (JT:Nat→Nat):Prop where
 ids:∀i,alive l i=true→E2.ID (JT i)=E'.ID i∧E2.IE (JT i)=E'.IE i
 bx:∀(i:Nat) p,l[i]? =some p→ ∃y,(J1.mk id l u)[i]? =some (p.mk id y)∧vw2[JT i]? =some (p.mk JT y)
 S:E2.S=E'.S
theorem bN(JT:Nat→Nat):∀{l:List BP} {u:J1.V l} {i:Nat} {p:BP},l[i]? =some p→ ∃y:p.V,(J1.mk id l u)[i]? =some (p.mk id y)∧(J1.mk JT l u)[i]? =some (p.mk JT y)
 |q::l,u,0,p,h=>by
  simp at h;subst h;exact⟨u.1,rfl,rfl⟩
 |q::l,u,i+1,p,h=>by
  obtain⟨y,h1,h2⟩:=bN JT (u:=u.2) (i:=i) (by simpa using h);grind[J1.mk]
 |[],_,_,_,h=>by simp at h
theorem Tf(JT:Nat→Nat):∀{l:List BP} {u:J1.V l},(J1.mk JT l u).length=l.length
 |[],_=>rfl
 |_::l,u=>by simp[J1.mk,Tf JT (l:=l)]
section
variable{E' E2:Env} {w:World} {l:List BP} {u:J1.V l} {vw2:List Bx} {JT:Nat→Nat} (r:tf E' E2 l u vw2 JT)
include r
omit r in
theorem ri{i:Nat}(h:alive l i=true):∃p,l[i]? =some p∧p≠ .gone:=by
 unfold alive at h;cases e:l[i]? with
 |none=>rw[e]at h;cases h
 |some p=>
  refine⟨p,rfl,fun hp=> ?_⟩;rw[e,hp]at h;cases h
theorem wt{p:AP}{y:p.V}{v:Value}(Fj:p.ML l=true)(h:VR E' w (J1.mk id l u) (p.mk id y) v):VR E2 w vw2 (p.mk JT y) v:=by
 cases p with
 |v t=>exact h
 |sl s q=>
  simp only[AP.ML]at Fj;subst Fj;simp only[AP.mk,VR,ARj]at h⊢;rw[r.S];omega
 |nil=>exact h
 |ref i=>
  simp only[AP.ML,AOV]at Fj;obtain⟨p,hp⟩:∃p,l[i]? =some p:=⟨_,AMJ Fj⟩;obtain⟨z,z1,z2⟩:=r.bx i p hp;simp only[AP.mk,VR,id]at h⊢;refine⟨h.1,?_⟩;have h2:=h.2;rw[z1]at h2;rw[z2];cases p with
  |mem q=>trivial
  |gone=>trivial
  |sl d q=>
   have hid:=(r.ids i (by simp[alive,hp])).2;grind[BP.mk]
 |ptr i j=>
  simp only[AP.ML]at Fj;obtain⟨p,hp,hg⟩:=ri Fj;obtain⟨z,z1,z2⟩:=r.bx i p hp;refine⟨(AMX.1 z2).1,?_⟩;rw[(r.ids i Fj).1];exact h.2
 |mG q=>simp[AP.ML]at Fj
 |jy i sz=>simp[AP.ML]at Fj
 |qP f rs=>simp[AP.ML]at Fj
 |fn f Kk=>
  simp only[AP.ML,ARv]at Fj;obtain⟨h1,h2⟩:=h;refine⟨fun b hb=> ?_,?_⟩
  ·obtain⟨i,hi,rfl⟩:=AR8.1 hb
   obtain⟨p,hp,_⟩:=ri (Fj i hi);obtain⟨z,_,z2⟩:=r.bx i p hp;grind
  ·rw[h2,ATK]
   congr 2
   rw[ATK];apply ASA;intro i hi;simp only[Function.comp,id,(r.ids i (Fj i hi)).1]
 |any=>trivial
theorem nF:∀{q:List AP} {y:X7.V q} {vs:List Value},q.all (AP.ML l)=true→iy E' w (J1.mk id l u) (X7.mk id q y) vs→iy E2 w vw2 (X7.mk JT q y) vs
 |[],_,[],_,_=>trivial
 |[],_,_::_,_,h=>h.elim
 |p::q,y,[],_,h=>h.elim
 |p::q,y,v::vs,Fj,h=>by
  simp only[AR_,AMY]at Fj;exact⟨wt r Fj.1 h.1,nF Fj.2 h.2⟩
theorem tO:∀{q:List (AP ⊕ List AP)} {y:YK.V q} {vs:List Value},(q.all fun| .inl p=>p.ML l| .inr q=>q.all (AP.ML l))=true→CX (TR E' w (J1.mk id l u)) (YK.mk id q y) vs→CX (TR E2 w vw2) (YK.mk JT q y) vs
 |[],_,[],_,_=>trivial
 |[],_,_::_,_,h=>h.elim
 | .inl p::q,y,[],_,h=>h.elim
 | .inr p::q,y,[],_,h=>h.elim
 | .inl p::q,y,v::vs,Fj,h=>by
  simp only[AR_,AMY]at Fj;exact⟨wt r Fj.1 h.1,tO Fj.2 h.2⟩
 | .inr p::q,y,v::vs,Fj,h=>by
  simp only[AR_,AMY]at Fj;obtain⟨us,e,hus⟩:=h.1;exact⟨⟨us,e,nF r Fj.1 hus⟩,tO Fj.2 h.2⟩
theorem APf{p:XP}{y:p.V}{v:Value}(Fj:p.ML l=true)(h:XR E' w (J1.mk id l u) (p.mk id y) v):XR E2 w vw2 (p.mk JT y) v:=by
 cases p with
 |c p=>exact wt r Fj h
 |agg q=>
  obtain⟨vs,e,V6⟩:=h;exact⟨vs,e,nF r Fj V6⟩
 |row q=>simp[XP.ML]at Fj
 |Nr q=>
  obtain⟨vs,e,V6⟩:=h;exact⟨vs,e,tO r Fj V6⟩
theorem AQl{i:Nat}{p:BP}{y:p.V}{F:ABH}(hi:l[i]? =some p)(Fj:p.ML l=true)(h:pE E' w (J1.mk id l u) i (p.mk id y) F):pE E2 w vw2 (JT i) (p.mk JT y) F:=by
 cases p with
 |mem q=>
  obtain⟨h1,arr,ty,fr,h2,h3,h4⟩:=h;have hid:=(r.ids i (by simp[alive,hi])).1;exact⟨by simp_all,arr,ty,fr,by simp_all,h3,nF r Fj h4⟩
 |sl d q=>
  obtain⟨h1,h2⟩:=h;refine⟨h1,?_⟩;rw[(r.ids i (by simp[alive,hi])).2,r.S];omega
 |gone=>exact h
end
end Go.Fw
end
section
namespace Go.Fw
theorem tq{s:BE}{N:Nat}{m0 m:Pm}{tm:List XV}{bx:List Bx}{x:s.V}(e:s.fit N m0 tm bx=some (x,m)):∀(k:Nat) p,s.G3[k]? =some p→p≠ .gone→ ∃b B,m[k]? =some (some b)∧bx[b]? =some B∧B≠ .dead∧
  ∀d r,p= .sl d r→ ∃d' rows,B= .sl d' r rows:=by
 simp only[BE.fit,AMi,AMU]at e;obtain⟨m1,e1,m2,e2,a,e3,c,e4,e5⟩:=e;cases e5;obtain⟨q1,q2⟩:=Rr (JT:=id) e4;grind
theorem ADY(n:Nat):oC (List.replicate n none):=fun i j b h=>by
 grind
theorem wq{w:World}{B B':Nat→Prop}{w':World}{r:Ty}{v:Value}{x y:List r.D}(h:Rd w B (.sl r) [v] x)(h':Rd w' B' (.sl r) [v] y):y.length=x.length:=by
 simp only[Rd]at h h';grind
section
variable{Y:Type} {P:Program} {E:Env} {σ:St} {a:Act} {w:World} {k:K Y} {y:Y}
theorem qR{E' E2:Env}{l:List BP}{u:J1.V l}{vw2:List Bx}{JT:Nat→Nat}(r:tf E' E2 l u vw2 JT):∀{sl:List (Nat×XP)} {z:G8.V sl} {x:Value},
  j9 l sl=true→OS E' w (J1.mk id l u) id sl z [x]→XR E2 w vw2 (eK sl z JT) x
 |[(0,p)],z,x,Fj,h=>by
  obtain⟨⟨v,hv,hx⟩,_⟩:=h;simp at hv;subst hv;exact APf r Fj hx
 |[],_,_,Fj,_=>by simp[j9]at Fj
 |(_+1,_)::_,_,_,Fj,_=>by simp[j9]at Fj
 |(0,_)::_::_,_,_,Fj,_=>by simp[j9]at Fj
def eJ(c:QB)(xs:List XV)(σ:St):ABH:=
 match c.ins.fit σ.bx.length c.ins.m0 xs (c.ins.opens σ.bx)with
 |some (_,m)=>m.filterMap id
 |none=>[]
theorem rV(h:Rel E σ a w)(s:BE):∃E',Rel E' { σ with bx:=s.opens σ.bx } a w∧Rg [] E σ.bx w E' (s.opens σ.bx) w∧(∀(i:Nat) d r,s.G3[i]? =some (.sl d r)→E'.IE (σ.bx.length+i)= .slice none 0 0)∧
  (∀x v,XR E w σ.bx x v→XR E' w (s.opens σ.bx) x v):=by
 let E':Env:={ E with IE:=fun k=>if k<σ.bx.length then E.IE k else .slice none 0 0 }
 have hlen:σ.bx.length≤(s.opens σ.bx).length:=by simp[BE.opens]
 have hold:∀b,b<σ.bx.length→(s.opens σ.bx)[b]? =σ.bx[b]?:=fun b hb=>by grind[BE.opens,List.getElem?_append_left]
 have mg:∀b,b<σ.bx.length→E'.IE b=E.IE b:=fun b hb=>by grind
 have keep:TF E w σ.bx E' w (s.opens σ.bx):=
  ⟨hlen,fun _ _=>rfl,fun _ h=>h,fun _ h=>h,h.bx.st,fun _ _=>rfl,fun b d r rows hb e=>⟨d,rows,by simp_all,fun p hp q ys hg=>⟨hp,⟨ys,hg,rfl⟩,fun hh he=>by simp_all⟩⟩⟩
 obtain⟨Fs,⟨f1,f2⟩,f3⟩:=h.bx;refine⟨E',⟨h.N8,h.tm.imp fun _ _ hx=>PC keep hx,?_⟩,?_,fun i d r hi=>by grind,fun x v hx=>PC keep hx⟩
 ·refine⟨Fs++List.replicate s.G3.length [],⟨by simp[BE.opens,f1],fun n B F hB hF=> ?_⟩,?_⟩
  ·by_cases hn:n<σ.bx.length
   ·rw[hold n hn]at hB
    rw[AQS (by omega)]at hF;have:=f2 n B F hB hF;cases B with
    |mem cs=>
     obtain⟨rfl,arr,ty,fr,a1,a2,a3⟩:=this;exact⟨rfl,arr,ty,fr,a1,a2,a3.imp fun _ _ hv=>GU keep hv⟩
    |sl d r rows=>exact⟨this.1,by rw[mg n hn];exact this.2⟩
    |dead=>exact this
   ·rw[AQm (by omega)]at hF
    have hF':F=[]:=ASD (AQq hF);subst hF';simp only[BE.opens]at hB;rw[AQm (by omega),ARa,AMU]at hB;obtain⟨p,_,rfl⟩:=hB;have hh:E'.IE n= .slice none 0 0:=by grind
    cases p with
    |mem q=>rfl
    |gone=>rfl
    |sl d r=>exact⟨by omega,by rw[hh];exact pZ⟩
  ·have:(Fs++List.replicate s.G3.length []).flatten=Fs.flatten:=by simp
   rw[this];exact⟨f3.nodup,f3.free,f3.lt,f3.st,f3.cf⟩
 ·refine⟨⟨fun _ h=>h,fun _ h=>h,fun _ h=> .inl h,fun _ h=> .inl h,fun _ _=>rfl,rfl,rfl,rfl,AP3 _⟩,hlen,fun b hb=>⟨rfl,mg b hb⟩,fun b hb=> ?_,fun n B B' _ hB T3 hd=> ?_⟩
  ·grind
  ·rw[hold n (AMX.1 hB).1,hB]at T3
   cases T3;exact⟨Vf.refl hd,fun _ _=>rfl⟩
theorem Rg.after{t:ABH}{E E' E'':Env}{bx Qu AUv:List Bx}{w w':World}(h:Rg [] E bx w E' Qu w)(hb:∀b,b<bx.length→Qu[b]? =bx[b]?)(k:Rg t E' Qu w E'' AUv w'):Rg t E bx w E'' AUv w':=
 ⟨h.base.trans k.base,ARV h.len k.len,fun b FW=>⟨(k.ids b (ARl FW h.len)).1.trans (h.ids b FW).1,(k.ids b (ARl FW h.len)).2.trans (h.ids b FW).2⟩,fun b hd=>k.dead b (h.dead b hd),fun n B B' hn hB T3 hd=>by
  have FW:=(AMX.1 hB).1;obtain⟨k1,k2⟩:=k.frame n B B' hn (by simp_all) T3 hd;refine⟨k1,fun c hc=>k2 c ?_⟩;cases B with
  |mem cs=>simp only[wZ]at hc⊢;rw[(h.ids n FW).1];omega
  |sl d r rows=>simp only[wZ]at hc⊢;rw[(h.ids n FW).2];omega
  |dead=>exact hc⟩
def ALW(c:QB)(N:Nat)(xs:List XV)(σ:St)(k:K Y):Option Y:=
 match c.ins.fit N c.ins.m0 xs σ.bx with
 |some (v,m)=>(c.g v).bind fun u=>
  let JT:=YQ m σ.bx.length
  let σ1:=σ.ZP m
  k (eK c.outs.EM u.1 JT) { σ1 with bx:=aD JT 0 c.outs.G3 u.2 (Ct σ1.bx m) }
 |none=>none
def w_(c:QB)(N:Nat)(xs:List XV)(σ:St):ABH:=
 match c.ins.fit N c.ins.m0 xs σ.bx with
 |some (_,m)=>m.filterMap id
 |none=>[]
theorem xp{f:Nat}{c:QB}(hc:W0 P f c)(h:Rel E σ a w){N0:Nat}(vv:∀(i:Nat) d r,c.ins.G3[i]? =some (.sl d r)→E.IE (N0+i)= .slice none 0 0){xs:List XV}{vs:List Value}(hxs:CX (XR E w σ.bx) xs vs)(hlen:xs.length=c.ins.EM.length)(e:ALW c N0 xs σ k=some y):
  Calls P f vs.toArray w fun e w' => ∃x E' xv σ',e= .returned x∧Rel E' σ' a w'∧XR E' w' σ'.bx xv x∧Rg (w_ c N0 xs σ) E σ.bx w E' σ'.bx w'∧σ'.tm.length=σ.tm.length∧k xv σ' =some y:=by
 obtain⟨Fj,_,sJ⟩:=hc;simp only[QB.ok,AMY]at Fj;obtain⟨⟨hk,hslot⟩,hbo⟩:=Fj;obtain⟨hklen,hk⟩:=XW hk;unfold ALW at e;split at e
 case h_2=>cases e
 rename_i v m d_;simp only[AMi]at e;obtain⟨u,hg,e⟩:=e;obtain⟨_,E1,hf⟩:=jZ h.bx hxs vv (by simp[BE.m0]) (ADY _) d_;have Pe:vs.toArray.size=c.ins.EM.length:=by grind[CX.len]
 refine(sJ E1 w v vs.toArray u Pe hf.boxes (by simpa using hf.EM) hg).mono fun e' w' hR=> ?_
 obtain⟨x,E',rfl,base,⟨Fs,hFs1,hFs2⟩,EM,ACD⟩:=hR;simp only[AN8]at hFs2;obtain⟨Fk,k1,k2,k3,k4⟩:=hf.rest;have st:=h.bx.st;have cf:=h.bx.cf;have hM:m.length=c.ins.G3.length:=hf.len;have all:∀i,i<m.length→ ∃b B,m[i]? =some (some b)∧σ.bx[b]? =some B∧B≠ .dead∧ ∀d r,c.ins.G3[i]? =some (.sl d r)→ ∃d' rows,B= .sl d' r rows:=by
  intro i hi;have hp:c.ins.G3[i]? =some (c.ins.G3[i]'(by omega)):=AMJ _;grind[tq,Option.some.inj]
 let N:=σ.bx.length
 let M:=m.length
 have AGM:∀i b,m[i]? =some (some b)→YQ m N i=b:=fun i b h=>by simp[YQ,h]
 have AWE:∀i,M≤i→YQ m N i=N+(i-M):=fun i hi=>by
  grind[List.getElem?_eq_none,YQ]
 have ro:uc (YQ m N) M N:=⟨fun i hi=>by
   grind,AWE,fun i j hi hj e=>by
   obtain⟨b,B,h1,h2,_⟩:=all i hi;obtain⟨b',B',r_,h2',_⟩:=all j hj;rw[AGM i b h1,AGM j b' r_]at e;subst e;exact hf.inj i j b h1 r_⟩
 let E2:Env:={
   ID:=fun n=>if n<N then E.ID n else E'.ID (M+(n-N))
   IE:=fun n=>if n<N then E.IE n else E'.IE (M+(n-N))
   T:=fun c=>E.T c∨E'.S c
   S:=E'.S }
 have hS:∀c,E.S c→E'.S c:=fun d hd=>base.S d (hf.S d hd)
 have hSk:∀d∈Fk.flatten,¬E'.S d:=fun d hd hs=>by
  obtain⟨_,n2,_,n4⟩:=k3 d hd;exact(base.y_ d hs).elim n2 (fun h=>h n4)
 have ACV:∀d,E.T d→w'.heap[d]? =w.heap[d]?:=fun d hd=>base.heap d (hf.T d hd)
 have AUn:∀d∈Fk.flatten,w'.heap[d]? =w.heap[d]?:=fun d hd=>base.heap d (k3 d hd).2.2.2
 have AUR:dA E w E2 w':=⟨fun d hd=> .inl hd,hS,fun d hd=>hd,fun d hd=>by
   rcases base.y_ d hd with h|h
   ·exact hf.y_ d h
   ·exact .inr fun ht=>h (hf.T d ht),ACV,base.os,base.tape,base.output,base.size⟩
 let vw':=J1.mk id c.outs.G3 u.2
 let Bs:=J1.mk (YQ m N) c.outs.G3 u.2
 let bk:=(Ct σ.bx m).map (Bx.map (Gm m))
 have hbk:Ct (σ.ZP m).bx m=bk:=by rw[ABM,dZ]
 have AcB:bk.length=N:=by simp[bk,Ky,N]
 let aU:=Lv (YQ m N) 0 Bs bk
 have AcV:aD (YQ m N) 0 c.outs.G3 u.2 (Ct (σ.ZP m).bx m)=aU:=by rw[lM,hbk]
 obtain⟨s1,s2,s3⟩:=fL ro (l:=Bs) (i:=0) (bx:=bk) (by omega);have AcO:Bs.length=c.outs.G3.length:=Tf _;have nn:σ.bx.length≤aU.length:=by
  grind
 have rn:tf E' E2 c.outs.G3 u.2 aU (YQ m N):=by
  refine⟨fun i hi=> ?_,fun i p hp=> ?_,rfl⟩
  ·by_cases him:i<M
   ·obtain⟨b,B,h1,h2,_⟩:=all i him
    have hbl:b<N:=(AMX.1 h2).1;have g1:=hf.ids i b h1;grind
   grind
  ·obtain⟨z,z1,z2⟩:=bN (YQ m N) (u:=u.2) hp
   grind
 have ADZ:∀n,n<N→some n∉m→aU[n]? =bk[n]?:=fun n hn hm=>by
  grind
 have keep:TF E w σ.bx E2 w' (Ct aU m):=by
  refine⟨by rw[Ky];omega,fun b hb=>by grind,fun d hd=> .inl hd,hS,st,ACV,fun b d r rows hb hq=> ?_⟩;have hbm:some b∉m:=fun hm=>by grind[Wi]
  rw[RD hbm,ADZ b hb hbm]at hq;have hq1:=AD5 hq;have gy:σ.bx[b]? =some (.sl d r rows):=by
   rcases SN (FM.refl σ.bx) b _ hq1 with e|e
   all_goals grind
  refine⟨d,rows,gy,fun p hp q ys hgp=>⟨hp,⟨ys,hgp,rfl⟩,fun h' hh=> ?_⟩⟩;have hFk:Fk[b]? =some (Fk[b]'(by rw[k1.1,Ky];omega)):=AMJ _;obtain⟨_,ho⟩:=k1.2 b _ _ hq1 hFk;have e2:E2.IE b=E.IE b:=by grind
  grind[sK,List.mem_flatten,List.mem_of_getElem?]
 have vr:∀x v,VR E w σ.bx x v→VR E2 w' aU (Gm m x) v:=fun x v hx=>by
  refine AAt keep (fun b d' r Cz hbm hq=> ?_) nn hx;obtain⟨i,hi,him⟩:=ARg hbm;have ANy:m[i]? =some (some b):=by grind
  obtain⟨b',B,h1,h2,h3,h4⟩:=all i hi;rw[ANy]at h1;cases h1;have hio:i<c.outs.G3.length:=by omega
  have hp:c.outs.G3[i]? =some c.outs.G3[i]:=AMJ hio;obtain⟨z,z1,z2⟩:=rn.bx i _ hp;rw[AGM i b ANy,hq]at z2;have AYu:c.ins.G3[i]? =some (c.ins.G3[i]'(by omega)):=AMJ _
  generalize c.outs.G3[i]=po at z hp z1 z2
  cases po with
  |mem q=>simp[BP.mk]at z2
  |gone=>simp[BP.mk]at z2
  |sl d0 q=>
   simp only[BP.mk,AMO,Bx.sl.injEq]at z2;obtain⟨rfl,rfl,z2⟩:=z2;obtain rfl:=ARM z2;obtain⟨d1,hpo⟩:=(hk i _ AYu).2 _ _ hp;obtain⟨d2,rows,rfl⟩:=h4 d1 r (by simp_all);have hbl:b<N:=(AMX.1 h2).1;have eh:E2.IE b=E.IE b:=by grind
   refine⟨d2,rows,h2,?_,eh⟩;obtain⟨F0,hR0,_⟩:=h.bx.take h2;have hFi:Fs[i]? =some (Fs[i]'(by rw[hFs1.1,Tf];omega)):=AMJ _;obtain⟨_,wW⟩:=hFs1.2 i _ _ z1 hFi;have z_:alive c.outs.G3 i=true:=by simp[alive,hp]
   rw[(ACD i (by omega) z_).2,(hf.ids i b ANy).2]at wW;exact wq (Xr hR0.2) (Xr wW)
 have fj:c.outs.G3.all (BP.ML c.outs.G3)=true:=hbo;have rel:Rel E2 { tm:=(σ.ZP m).tm,bx:=aU } a w':=by
  refine⟨h.N8,?_,?_⟩
  ·rw[rZ]
   exact CX.MA _ (fun x v hx=>zp vr hx) h.tm
  ·refine df ro (Fs:=Fs) (by omega) (fun i _ hi=> ?_) (by rw[hFs1.1,Tf];omega) (fun j B F hB hF=> ?_) ?_
   ·obtain⟨b,B,h1,h2,_⟩:=all i hi
    rw[AGM i b h1];have hbl:b<(Ct σ.bx m).length:=by grind
    have hd:(Ct σ.bx m)[b]? =some .dead:=by
     rw[AMJ hbl];exact congrArg some (Wi (AQq h1) (AMJ hbl))
    simp only[bk];rw[ARa,hd];rfl
   ·rw[AR5]
    have wT:=(AMX.1 hB).1;have hp:c.outs.G3[j]? =some (c.outs.G3[j]'(by omega)):=AMJ _;obtain⟨z,z1,z2⟩:=bN (YQ m N) (u:=u.2) hp;have T3:Bs[j]? =_:=z2;rw[hB]at T3;cases T3;exact AQl rn hp (ARv.1 fj _ (AM3 _)) (hFs1.2 j _ _ z1 hF)
   ·
    refine⟨Fk,⟨by simp[bk,k1.1],fun n B F hn hF=> ?_⟩,?_⟩
    ·simp only[bk]at hn
     rw[ARa,AMU]at hn;obtain⟨B0,hn,rfl⟩:=hn;have v7:n<N:=by grind
     have h3:=k1.2 n B0 F hn hF;have hFw:∀d∈F,w'.heap[d]? =w.heap[d]?:=fun d hd=>AUn d (ARc.2 ⟨F,AQq hF,hd⟩)
     have eb:E2.ID n=E.ID n:=by grind
     have eh:E2.IE n=E.IE n:=by grind
     cases B0 with
     |mem cs=>
      obtain⟨rfl,arr,ty,fr,ha,hu,hv⟩:=h3;exact⟨by rw[eb],arr,ty,fr,by simp_all,hu,CX.MA _ vr hv⟩
     |sl d r rows=>
      refine⟨h3.1,?_⟩;rw[eh];exact EU hS (fun d hd=>ACV d (st d hd)) hFw h3.2
     |dead=>exact h3
    ·refine⟨AP2.2 ⟨k2,hFs2.nodup,fun x hx z hz he=> ?_⟩,fun d hd ht=> ?_,fun d hd=> ?_,fun d hd=> .inr hd,fun d hd=> ?_⟩
     ·subst he
      exact hFs2.free x hz (base.T x (k3 x hx).2.2.2)
     ·rcases APr.1 hd with hd|hd
      ·grind
      ·rcases ht with ht|ht
       ·exact hFs2.free d hd (base.T d (hf.T d ht))
       ·exact hFs2.free d hd (hFs2.st d ht)
     ·rcases APr.1 hd with hd|hd
      ·grind
      ·exact hFs2.lt d hd
     ·rcases hd with hd|hd
      ·grind
      ·exact hFs2.cf d (hFs2.st d hd)
 have AUO:Rg (w_ c N0 xs σ) E σ.bx w E2 aU w':=by
  refine⟨AUR,nn,fun n hn=>⟨by grind,by grind⟩,fun n hn=> ?_,fun n B B' hnt hB T3 xu=> ?_⟩
  rotate_left 1
  ·have v7:=(AMX.1 hB).1
   have hnm:some n∉m:=fun hm=>hnt (by
    simp only[w_,d_,List.mem_filterMap];simp_all)
   rw[ADZ n v7 hnm]at T3;simp only[bk]at T3;have hkn:(Ct σ.bx m)[n]? =some B:=by grind[RD]
   rw[ARa,hkn]at T3;have T3:Bx.map (Gm m) B=B':=by simp_all
   have hFk:Fk[n]? =some (Fk[n]'(by rw[k1.1,Ky];omega)):=AMJ _;refine⟨?_,fun d hd=> ?_⟩
   ·subst T3
    cases B with
    |mem cs=>trivial
    |sl d r rows=>rfl
    |dead=>exact absurd rfl xu
   ·rcases eO (k1.2 n B _ hkn hFk) hd with hs|hs
    all_goals grind[List.mem_flatten,List.mem_of_getElem?]
  have v7:=(AMX.1 hn).1;have hnm:some n∉m:=fun hm=>by
   obtain⟨i,hi,him⟩:=ARg hm;grind
  rw[ADZ n v7 hnm];simp only[bk];rw[ARa,RD hnm,hn];rfl
 refine⟨x,E2,eK c.outs.EM u.1 (YQ m N),{ tm:=(σ.ZP m).tm,bx:=aU },rfl,rel,qR rn hslot EM,AUO,by simp[rZ],?_⟩;grind
theorem AAX{f:Nat}{c:QB}(hc:W0 P f c)(h:Rel E σ a w){xs:List XV}{vs:List Value}(hxs:CX (XR E w σ.bx) xs vs)(e:lZ c xs σ k=some y):
  Calls P f vs.toArray w fun e w' => ∃x E' xv σ',e= .returned x∧Rel E' σ' a w'∧XR E' w' σ'.bx xv x∧Rg (eJ c xs σ) E σ.bx w E' σ'.bx w'∧σ'.tm.length=σ.tm.length∧k xv σ' =some y:=by
 unfold lZ at e;split at e
 case isFalse=>cases e
 rename_i hlen;obtain⟨E',h1,h2,h3,h4⟩:=rV h c.ins;have hold:∀b,b<σ.bx.length→(c.ins.opens σ.bx)[b]? =σ.bx[b]?:=fun b hb=>by grind[BE.opens,List.getElem?_append_left]
 refine(xp (N0:=σ.bx.length) hc h1 h3 (hxs.imp fun x v hx=>h4 x v hx) hlen (k:=k) (y:=y) e).mono fun e' w' hR=> ?_
 obtain⟨x,E2,xv,σ',q0,q1,q2,q3,q4,q5⟩:=hR;exact⟨x,E2,xv,σ',q0,q1,q2,h2.after hold q3,q4,q5⟩
end
end Go.Fw
end
section
namespace Go.Fw
def gV(P:Program)(Γ:Nat→Option QB):Prop:= ∀f c,Γ f=some c→W0 P f c
theorem qn{Γ:Nat→Option QB}{σ:St}{o:Op}(h:oR o=false):Kd (fun _=>none) σ o=Kd Γ σ o:=by
 cases o with
 |call c=>
  obtain⟨callee,args,ql⟩:=c;cases callee with
  |value f=>simp[oR]at h
  |invoke _ _=>rfl
  |builtin b=>cases b<;>rfl
 |_=>rfl
theorem ASu{Y:Type}{P:Program}{Γ:Nat→Option QB}{o:Oper}{E:Env}{σ:St}{a:Act}{w:World}{k:K Y}{y:Y}{g:Nat}{c:QB}(hsc:W0 P g c)(h:Rel E σ a w){f:Operand}{args:Array Operand}{ql:Array TypeId}
  (ho:o.op= .call { callee:= .value f,args:=args,argTypes:=ql }) {ps:List Value} (aS:a.eval f= .func (.func g) #[] ps.toArray) {xs:List XV} (Ie:CX (XR E w σ.bx) xs (args.toList.map a.eval++ps)) (ht:Kd Γ σ o.op=eJ c xs σ)
  (e:lZ c xs σ k=some y) {next:Act→World→Prop} {Q:Exit→Act→World→Prop}
  (hn:∀v w' E' x σ',Rel E' σ' a w'→XR E' w' σ'.bx x v→Rg (Kd Γ σ o.op) E σ.bx w E' σ'.bx w'→σ'.tm.length=σ.tm.length→k x σ' =some y→next (a.put o.dst v) w'):o.wp P a w next Q:=by
 have sJ:=AAX hsc h Ie e;have ko:(execOp a.eval o).run P w= .ok (.enter g (args.toList.map a.eval++ps).toArray) w:=by
  have e2:(args.map a.eval)++ps.toArray=(args.toList.map a.eval++ps).toArray:=by
   simp_all
  simp only[execOp,ho,resolve,aS,Deferred.ofValue,Sem.run_bind,Sem.run_pure,Result.andThen_ok,invoke,Array.empty_append,e2,hsc.2.1]
 unfold Oper.wp;rw[ko];simp only[Oper.upon];refine sJ.mono fun e w' hR=> ?_
 grind
section
variable{Y:Type} {P:Program} {T:J0} (hT:Ei P T) {Γ:Nat→Option QB} (hΓ:gV P Γ) {o:Oper} {E:Env} {σ:St} {a:Act} {w:World} {k:K Y} {y:Y}
include hT hΓ
theorem yV(h:Rel E σ a w)(e:W5 T Γ o σ k=some y){next:Act→World→Prop}{Q:Exit→Act→World→Prop}
  (hn:∀v w' E' x σ',Rel E' σ' a w'→XR E' w' σ'.bx x v→Rg (Kd Γ σ o.op) E σ.bx w E' σ'.bx w'→σ'.tm.length=σ.tm.length→k x σ' =some y→next (a.put o.dst v) w'):o.wp P a w next Q:=by
 by_cases hc:oR o.op=false
 ·obtain⟨v,w',E',x,σ',hr,h1,h2,h3,h4,h5⟩:=AAq hT h e hc
  rw[qn hc]at h3;unfold Oper.wp;rcases hr with hr|⟨hr,rfl⟩
  ·rw[hr]
   exact hn v w' E' x σ' h1 h2 h3 h4 h5
  ·rw[hr]
   exact hn _ w' E' x σ' h1 h2 h3 h4 h5
 ·
  unfold oR at hc;split at hc
  case h_2=>simp_all
  rename_i f args ql ho;unfold W5 at e;rw[ho]at e;dsimp only at e;split at e
  case h_3=>cases e
  ·rename_i g Kk hf
   split at e
   case h_2=>cases e
   rename_i c hg;have hv:=h.ev f;rw[hf]at hv;obtain⟨bc,aS⟩:(∀b∈Kk,b<σ.bx.length)∧a.eval f= .func (.func g) #[] (Kk.map fun b=>Value.pointer (some ⟨E.ID b,0,none⟩)).toArray:=hv;have hsc:=hΓ g c hg;have Ie:CX (XR E w σ.bx) (args.toList.map σ.ev++Kk.map fun b=> .c (.Im b 0)) (args.toList.map a.eval++Kk.map fun b=>Value.pointer (some ⟨E.ID b,0,none⟩)):=by
    refine CX.append (evs h args.toList) ?_
    clear aS hf e
    induction Kk with
    |nil=>trivial
    |cons b l ih=>exact⟨⟨bc b (by simp),rfl⟩,ih (fun c hc=>bc c (by simp[hc]))⟩
   grind[Kd,eJ,ASu]
  ·rename_i g rows hf
   split at e
   case h_2=>cases e
   rename_i c hg;have hv:=h.ev f;rw[hf]at hv;obtain⟨ps,aS,bc⟩:∃ps:List Value,a.eval f= .func (.func g) #[] ps.toArray∧CX (RA E w) rows ps:=hv;have hsc:=hΓ g c hg;have Ie:CX (XR E w σ.bx) (args.toList.map σ.ev++rows.map fun q=> .c (.Pg false q.1 q.2 0)) (args.toList.map a.eval++ps):=by
    refine CX.append (evs h args.toList) ?_
    clear aS hf e
    induction rows generalizing ps with
    |nil=>
     cases ps with
     |nil=>trivial
     |cons _ _=>exact bc.elim
    |cons q l ih=>
     cases ps with
     |nil=>exact bc.elim
     |cons p ps=>
      obtain⟨⟨bb,o,cs,h1,h2,h3,h4,h5⟩,bc⟩:=bc;exact⟨⟨bb,o,cs,h1,h2,h3,h4,h5⟩,ih ps bc⟩
   grind[Kd,eJ,ASu]
end
theorem Rel.tmp{E:Env}{σ:St}{a:Act}{w:World}(h:Rel E σ a w){t:Nat}{x:XV}(e:σ.tm[t]? =some x):∃v,a.tmps[t]? =some v∧XR E w σ.bx x v:=by
 obtain⟨v,h1,h2⟩:=h.tm.get e;simp_all
def AM0:Value→Option Bool
 | .bool b=>some b
 |_=>none
theorem aj{ops:Array Oper}{tmps:Array Value}{j t:Nat}(e:(ops[j]?).bind (·.dst)=some t){v:Value}(hv:tmps[t]? =some v):yielded ops tmps j=AM0 v:=by
 simp only[yielded,e,AMP,hv];cases v<;>rfl
theorem nw{E:Env}{w:World}{vw:List Bx}:XR E w vw (.Nr []) undef:=⟨#[],rfl,trivial⟩
structure Ok (E0:Env) (w0:World) (N nb:Nat) (E:Env) (σ:St) (a:Act) (w:World):Prop where
 rel:Rel E σ a w
 base:dA E0 w0 E w
 tm:σ.tm.length=N
 qO:nb≤σ.bx.length
 ids:∀i,i<nb→σ.bx[i]?≠some .dead→E.ID i=E0.ID i∧E.IE i=E0.IE i
theorem Ok.next{E0 E E':Env}{w0 w w':World}{N nb:Nat}{σ σ':St}{a a':Act}{t:ABH}(h:Ok E0 w0 N nb E σ a w)(hr:Rel E' σ' a' w')(hw:Rg t E σ.bx w E' σ'.bx w')(hl:σ'.tm.length=σ.tm.length):Ok E0 w0 N nb E' σ' a' w':=
 ⟨hr,h.base.trans hw.base,hl.trans h.tm,ARV h.qO hw.len,fun i hi hd=>by
  have h1:=hw.ids i (ARl hi h.qO);have h2:=h.ids i hi (fun hh=>hd (hw.dead i hh));simp_all⟩
theorem Ok.put{E0 E:Env}{w0 w:World}{N nb:Nat}{σ:St}{a:Act}(h:Ok E0 w0 N nb E σ a w)(dst:Option Tmp){x:XV}{v:Value}(hx:XR E w σ.bx x v):Ok E0 w0 N nb E (σ.put dst x) (a.put dst v) w:=by
 have e1:(σ.put dst x).bx=σ.bx:=by cases dst<;>rfl
 have e2:(σ.put dst x).tm.length=σ.tm.length:=by cases dst<;>simp[St.put]
 refine⟨h.rel.put dst hx,h.base,e2.trans h.tm,by rw[e1];exact h.qO,fun i hi hd=>h.ids i hi (by simp_all)⟩
theorem Ok.same{E0 E:Env}{w0 w:World}{N nb:Nat}{σ σ1:St}{a:Act}(h:Ok E0 w0 N nb E σ a w)(hr:Rel E σ1 a w)(hb:σ1.bx=σ.bx)(hl:σ1.tm.length=σ.tm.length):Ok E0 w0 N nb E σ1 a w:=
 ⟨hr,h.base,hl.trans h.tm,by rw[hb];exact h.qO,fun i hi hd=>h.ids i hi (by simp_all)⟩
end Go.Fw
end
section
namespace Go.Fw
section
variable{Y:Type}
abbrev k0:K (XV×St):=fun x σ=>some (x,σ)
theorem AA9{op:BinOp}{κ:IntKind}{a b:Int}(k:AV→Option Y):fQ op κ a b k=(fQ op κ a b some).bind k:=by
 cases op<;>simp[fQ]<;>split<;>rfl
theorem uy{op:BinOp}{κ:IntKind}{a b:Int}(k:AV→Option Y):Yg op κ a b k=(Yg op κ a b some).bind k:=by
 unfold Yg;grind
theorem zc{op:BinOp}{a b:ABY}(k:AV→Option Y):jO op a b k=(jO op a b some).bind k:=by
 cases op<;>simp[jO]<;>split<;>rfl
theorem nq{T:J0}{t:Nat}{op:BinOp}{a b:XV}(k:AV→Option Y):uq T t op a b k=(uq T t op a b some).bind k:=by
 unfold uq;grind[uy,AA9,zc]
theorem sw{op:UnOp}{a:XV}(k:AV→Option Y):unX op a k=(unX op a some).bind k:=by
 unfold unX;grind
theorem aQ{g:Bool}{a b:XV}(k:AV→Option Y):tJ g a b k=(tJ g a b some).bind k:=by
 unfold tJ;grind
theorem L0{len:Nat}{lo hi:Option XV}(k:Nat→Nat→Option Y):Ox len lo hi k=(Ox len lo hi fun l h=>some (l,h)).bind fun p=>k p.1 p.2:=by
 unfold Ox;grind
theorem xh{T:J0}{t:Nat}{σ:St}{x:XV}{lo hi:Option XV}(k:K Y):kg T t σ x lo hi k=(kg T t σ x lo hi k0).bind fun p=>k p.1 p.2:=by
 unfold kg;split
 ·split
  ·rw[L0,L0 (Y:=XV×St),AS8];rfl
  ·rfl
 ·split
  ·rw[L0,L0 (Y:=XV×St),AS8];rfl
  ·rfl
 ·split
  ·split
   ·rw[L0,L0 (Y:=XV×St),AS8];rfl
   ·rfl
  ·rfl
 ·rfl
theorem yF{T:J0}{t:Nat}{σ:St}{x i:XV}(k:K Y):jr σ T t x i k=(jr σ T t x i k0).bind fun p=>k p.1 p.2:=by
 unfold jr;grind
theorem q9{T:J0}{t:Nat}{σ:St}{x i:XV}(k:K Y):Wu T t σ x i k=(Wu T t σ x i k0).bind fun p=>k p.1 p.2:=by
 unfold Wu;grind
theorem AAB{T:J0}{s d:Nat}{σ:St}{x:XV}(k:K Y):rb T s d σ x k=(rb T s d σ x k0).bind fun p=>k p.1 p.2:=by
 unfold rb;grind
theorem ABQ{T:J0}{t:Nat}{σ:St}{l c:XV}(k:K Y):r7 T t σ l c k=(r7 T t σ l c k0).bind fun p=>k p.1 p.2:=by
 grind[r7]
theorem mI{T:J0}{t n:Nat}{ps:List (Nat×XV)}{σ:St}(k:K Y):RI T t n ps σ k=(RI T t n ps σ k0).bind fun p=>k p.1 p.2:=by
 grind[RI,Option.bind_assoc]
theorem uY{T:J0}{ts:Array TypeId}{σ:St}{a x:XV}(k:K Y):eI T ts σ a x k=(eI T ts σ a x k0).bind fun p=>k p.1 p.2:=by
 unfold eI;split
 all_goals grind
theorem xC{T:J0}{ts:Array TypeId}{σ:St}{x:XV}(k:K Y):j0 T ts σ x k=(j0 T ts σ x k0).bind fun p=>k p.1 p.2:=by
 unfold j0;grind
theorem ABP{c:QB}{xs:List XV}{σ:St}(k:K Y):lZ c xs σ k=(lZ c xs σ k0).bind fun p=>k p.1 p.2:=by
 grind[lZ,Option.bind_assoc]
theorem uS{σ:St}{x:XV}(k:K Y):aa σ x k=(aa σ x k0).bind fun p=>k p.1 p.2:=by
 unfold aa;grind
theorem ABB{T:J0}{Γ:Nat→Option QB}{o:Oper}{σ:St}(k:K Y):W5 T Γ o σ k=(W5 T Γ o σ k0).bind fun p=>k p.1 p.2:=by
 unfold W5;split
 ·rfl
 ·exact uS k
 ·split
  ·rename_i x _
   cases x<;>rfl
  ·rfl
 ·grind
 ·grind
 ·grind
 ·exact mI k
 ·grind
 ·grind
 ·grind
 ·rw[nq,nq (Y:=XV×St),AS8];rfl
 ·rw[sw,sw (Y:=XV×St),AS8];rfl
 ·exact AAB k
 ·grind
 ·exact ABQ k
 ·exact xh k
 ·grind
 ·grind
 ·exact yF k
 ·exact q9 k
 ·grind
 ·grind[ABP]
 ·grind
 ·grind[uY]
 ·grind[xC]
 ·split
  ·rw[aQ,aQ (Y:=XV×St),AS8];rfl
  ·rfl
 ·split
  ·rw[aQ,aQ (Y:=XV×St),AS8];rfl
  ·rfl
 ·rfl
theorem kD{I:Type}[Nonempty I]{T:J0}{Γ:Nat→Option QB}{o:Oper}{σ:St}{k:I→K Y}{y:Y}(h:∀i,W5 T Γ o σ (k i)=some y):∃x σ',W5 T Γ o σ k0=some (x,σ')∧ ∀i,k i x σ' =some y:=by
 obtain⟨i0⟩:= ‹Nonempty I›;have h0:=h i0;grind[ABB,Option.bind_eq_some_iff]
end
end Go.Fw
end
section
namespace Go.Fw
def WF{α:Type}(P:Program)(s:Sem α):Prop:= ∀w v w1,s.run P w= .ok v w1→ ∀w',s.run P w' = .ok v w'
section
variable{α β:Type} {P:Program}
theorem WF.pure(x:α):WF P (Pure.pure x:Sem α):=fun w v w1 h w' =>by
 simp_all
theorem WF.bind{s:Sem α}{f:α→Sem β}(h:WF P s)(k:∀v,WF P (f v)):WF P (s >>= f):=fun w v w1 e w' =>by
 rw[Sem.run_bind]at e⊢;cases hs:s.run P w with
 |ok u w2=>
  rw[hs]at e;simp only[Result.andThen_ok]at e;rw[h w u w2 hs w'];simp only[Result.andThen_ok];exact k u w2 v w1 e w'
 |halt x w2=>
  simp_all
theorem WF.halt(x:Halt):WF P (.halt x:Sem α):=fun w v w1 e w' =>by simp_all
theorem WF.program:WF P program:=fun w v w1 e w' =>by
 simp_all
theorem WF.typeInfo(t:TypeId):WF P (typeInfo t):=WF.bind WF.program fun p=>by
 split
 ·exact WF.pure _
 ·exact WF.halt _
theorem WF.underlying(t:TypeId):WF P (underlying t):=WF.bind WF.program fun p=>by
 split
 ·exact WF.pure _
 ·exact WF.halt _
theorem WF.sizeOf(t:TypeId):WF P (Go.sizeOf t):=WF.bind (WF.typeInfo t) fun _=>WF.pure _
theorem WF.isAgg(t:TypeId):WF P (isAgg t):=WF.bind (WF.underlying t) fun d=>by
 grind[WF.pure]
theorem WF.zeroValue(t:TypeId):WF P (zeroValue t):=WF.bind (WF.typeInfo t) fun i=>by
 split
 ·exact WF.pure _
 ·exact WF.halt _
theorem WF.asIntOf(v:Value):WF P (asIntOf v):=by
 unfold Go.asIntOf;split
 ·exact WF.pure _
 ·exact WF.halt _
 ·exact WF.halt _
theorem WF.asBool(v:Value):WF P (asBool v):=by
 unfold Go.asBool;split
 ·exact WF.pure _
 ·exact WF.halt _
theorem WF.asAgg(v:Value):WF P (asAgg v):=by
 unfold Go.asAgg;split
 ·exact WF.pure _
 ·exact WF.halt _
theorem WF.sureAddr(v:Value):WF P (Instr.sureAddr v):=by
 unfold Instr.sureAddr;split
 ·exact WF.pure _
 ·exact WF.halt _
theorem WF.uk{s:Sem α}(h:∀w v w1,s.run P w≠ .ok v w1):WF P s:=fun w v w1 e=>absurd e (h w v w1)
theorem XU{s:Sem α}{f:α→Sem β}(h:∀x w v w1,(f x).run P w≠ .ok v w1):∀w v w1,(s >>= f).run P w≠ .ok v w1:=fun w v w1 e=>by
 rw[Sem.run_bind]at e;cases hs:s.run P w with
 |ok u w2=>simp_all
 |halt x w2=>simp_all
theorem fq(x:Halt):∀w v w1,(.halt x:Sem α).run P w≠ .ok v w1:=fun w v w1 e=>by simp_all
theorem lG(e:RuntimeError):∀w v w1,(runtimePanic e:Sem α).run P w≠ .ok v w1:=by
 unfold runtimePanic;refine XU fun p=> ?_
 dsimp only;split<;>first
  |exact fq _
  |exact XU fun _=>XU fun _=>fq _
  |exact XU fun _=>fq _
theorem WF.bounds(k:IntKind)(x y:Int)(c:BoundsCode):WF P (boundsPanic k x y c:Sem α):=WF.uk (by
 grind[boundsPanic,XU,lG])
theorem WF.part(t:TypeId)(cs:Array Value)(o:Nat):WF P (part t cs o):=WF.bind (WF.isAgg t) fun b=>by
 split
 ·grind[WF.bind,WF.sizeOf,WF.pure]
 ·split
  ·exact WF.pure _
  ·exact WF.halt _
theorem WF.field(t:TypeId)(x:Value)(f:Nat):WF P (Instr.field t x f):=WF.bind (WF.underlying t) fun d=>by
 split
 ·split
  ·grind[WF.bind,WF.asAgg,WF.part]
  ·exact WF.halt _
 ·exact WF.halt _
theorem WF.indexAt(t:TypeId)(x i:Value):WF P (Instr.indexAt t x i):=WF.bind (WF.asIntOf i) fun q=>by
 obtain⟨k,i⟩:=q;dsimp only;refine WF.bind (WF.underlying t) fun d=> ?_
 have rest:∀q:Option Addr×Nat×TypeId,WF P (do
   let d←Go.underlying t
   match q.1 with
   |some a=>
    if 0≤i∧i<(q.2.1:Int)then do
     let s←Go.sizeOf q.2.2
     Pure.pure (Value.pointer (some (a.add (i.toNat*s))))
    else if(decide (q.2.1≤1)&&(match d with| .array .. =>true|_=>false))=true then unsupported (.noEntry "op/indexAddr.an index out of range at an array of length 0 or 1 (ledger 616)")
    else boundsPanic k i q.2.1 .index
   |none=>boundsPanic k i 0 .index:Sem Value):=fun q=>by
  refine WF.bind (WF.underlying t) fun d=> ?_
  split
  ·split
   ·grind[WF.bind,WF.sizeOf,WF.pure]
   ·repeat' split
    all_goals first|exact WF.halt _|exact WF.bounds _ _ _ _
  grind[WF.bounds]
 split
 ·exact WF.bind (WF.sureAddr _) fun _=>WF.bind (WF.pure _) fun q=>rest q
 ·exact WF.bind (WF.pure _) fun q=>rest q
 ·exact WF.bind (WF.halt _) fun q=>rest q
theorem WF.index(t:TypeId)(x i:Value):WF P (Instr.index t x i):=WF.bind (WF.asIntOf i) fun q=>by
 obtain⟨k,i⟩:=q;dsimp only;refine WF.bind (WF.underlying t) fun d=> ?_
 split
 ·grind[WF.bind,WF.sizeOf,WF.part,WF.bounds]
 ·grind[WF.pure,WF.bounds]
 ·exact WF.halt _
theorem WF.extract(x:Value)(i:Nat):WF P (Instr.extract x i):=by
 unfold Instr.extract;split
 ·split
  ·exact WF.pure _
  ·exact WF.halt _
 ·exact WF.halt _
theorem WF.sliceBound(x:Value)(y:Nat)(c:BoundsCode):WF P (Instr.sliceBound x y c):=WF.bind (WF.asIntOf x) fun q=>by
 grind[WF.pure,WF.bounds]
theorem WF.sliceBounds(b:Bool)(len cap:Nat)(l h:Option Value):WF P (Instr.sliceBounds b len cap l h none):=by
 cases h with
 |none=>
  cases l with
  |none=>exact WF.bind (WF.pure _) fun _=>WF.bind (WF.pure _) fun _=>WF.bind (WF.pure _) fun _=>WF.pure _
  |some l=>exact WF.bind (WF.pure _) fun _=>WF.bind (WF.pure _) fun _=>WF.bind (WF.sliceBound _ _ _) fun _=>WF.pure _
 |some h=>
  cases l with
  |none=>exact WF.bind (WF.pure _) fun _=>WF.bind (WF.sliceBound _ _ _) fun _=>WF.bind (WF.pure _) fun _=>WF.pure _
  |some l=>exact WF.bind (WF.pure _) fun _=>WF.bind (WF.sliceBound _ _ _) fun _=>WF.bind (WF.sliceBound _ _ _) fun _=>WF.pure _
theorem WF.asAddr(v:Value):WF P (asAddr v):=by
 unfold Go.asAddr;split
 ·exact WF.pure _
 ·exact WF.uk (lG _)
 ·exact WF.halt _
theorem WF.slice(t:TypeId)(x:Value)(l h:Option Value):WF P (Instr.slice t x l h none):=WF.bind (WF.underlying t) fun d=>by
 split
 ·grind[WF.bind,WF.sliceBounds,WF.pure]
 ·grind[WF.bind,WF.sliceBounds,WF.sizeOf,WF.pure]
 ·refine WF.bind (WF.asAddr _) fun _=>WF.bind (WF.underlying _) fun d=> ?_
  split
  ·grind[WF.bind,WF.sliceBounds,WF.sizeOf,WF.pure]
  ·exact WF.halt _
 ·exact WF.halt _
theorem WF.sliceAt(t:TypeId)(x:Value)(l h:Option Value):WF P (Instr.sliceAt t x l h none):=WF.bind (WF.underlying t) fun d=>by
 grind[WF.bind,WF.sureAddr,WF.sliceBounds,WF.sizeOf,WF.pure,WF.slice]
theorem WF.rI{f:α→Sem β}(h:∀x,WF P (f x)):∀l:List α,WF P (l.mapM f)
 |[]=>WF.pure _
 |x::l=>by
  rw[AWc];exact WF.bind (h x) fun _=>WF.bind (WF.rI h l) fun _=>WF.pure _
theorem WF.mapM{f:α→Sem β}(h:∀x,WF P (f x))(a:Array α):WF P (a.mapM f):=by
 rw[Array.mapM_eq_mapM_toList,←bind_pure_comp];grind[WF.bind,WF.rI,WF.pure]
theorem WF.build(t:TypeId)(ps:Array (Nat×Value)):WF P (Instr.build t ps):=WF.bind (WF.zeroValue t) fun z=>by
 refine WF.bind (WF.underlying t) fun d=> ?_
 split
 ·refine WF.bind (WF.mapM (fun f=>WF.bind (WF.sizeOf _) fun _=>WF.pure _) _) fun _=> ?_
  split
  ·exact WF.pure _
  ·exact WF.halt _
 ·refine WF.bind (WF.sizeOf _) fun _=> ?_
  split
  ·exact WF.pure _
  ·exact WF.halt _
 ·exact WF.halt _
end
end Go.Fw
end
section
namespace Go.Fw
def Kof(hint:ABH)(E:Env)(w:World)(bx:List Bx)(c:Nat):Prop:=E.T c∨ ∃n B,n∈hint∧bx[n]? =some B∧wZ E w n B c
def pC(K:Nat→Prop)(w w':World):Prop:= ∀c,K c→w'.heap[c]? =w.heap[c]?
theorem zL{w:World}{B:Nat→Prop}:∀{p:List Wo} {r:Ty} {h:Value} {rows:List r.D} {q:Ty} {ys:List q.D} {bb o len cap i:Nat},Rd w B (.sl r) [h] rows→DG r rows p→HE r rows p=some ⟨q,ys⟩→
  JB w h p=some (.slice (some ⟨bb,o,none⟩) len cap)→i<ys.length→RB w (.sl r) [h] rows bb
 |[],r,h,rows,q,ys,bb,o,len,cap,i,hr,hp,hg,hh,hi=>by
  rw[DB]at hh;cases hh;simp only[HE,AMO,APl]at hg;obtain⟨rfl,hg⟩:=hg;obtain rfl:=ARM hg;simp only[RB];grind
 |s::p,r,h,rows,q,ys,bb,o,len,cap,i,hr,hp,hg,hh,hi=>by
  simp only[DG]at hp;obtain⟨hsi,Pe,hp⟩:=hp;simp only[Rd]at hr;obtain⟨a,cap',e1,_,hr⟩:=hr;obtain rfl:=(List.cons.inj e1).1;rcases hr with hr|⟨b',o',rfl,hb,hr⟩
  ·omega
  obtain⟨cs,hl,hc,hrow⟩:=hr s.i _ (RO hsi);simp only[HE]at hg;split at hg
  case h_2=>cases hg
  rename_i q' x fg;rw[fg]at hp;dsimp only at hp;obtain⟨v,hv,hrv⟩:=eL hrow fg;have hcv:=hc _ _ hv;rw[←Pe]at hcv;simp only[JB,hcv]at hh;have:=zL hrv hp hg hh hi;simp only[RB];refine⟨b',o',_,cap',rfl,by omega,.inr ⟨s.i,_,cs,RO hsi,hl,hc,?_⟩⟩;clear hc hcv e1 hr;exact RB_cell hrow fg hv this
where
 RB_cell {w:World} {B:Nat→Prop} {c:Nat}:∀{r:Ty} {cs:List Value} {x:r.D} {j:Nat} {t:Ty} {y:t.D} {v:Value},Rd w B r cs x→BN r j x=some ⟨t,y⟩→cs[j]? =some v→RB w t [v] y c→RB w r cs x c
 | .cons c r,cs,x,0,t,y,v,h,e,hv,k=>by
  simp only[Rd]at h;obtain⟨u,l,rfl,h1,h2⟩:=h;simp only[BN,AMO,APl]at e;obtain⟨rfl,e⟩:=e;obtain rfl:=ARM e;simp at hv;subst hv;simp only[RB];grind
 | .cons c r,cs,x,j+1,t,y,v,h,e,hv,k=>by
  simp only[Rd]at h;obtain⟨u,l,rfl,h1,h2⟩:=h;simp only[BN]at e;have:=RB_cell h2 e (by simp_all) k;simp only[RB];grind
 | .int k,cs,x,0,t,y,v,h,e,hv,k' =>by
  simp only[BN,AMO,APl]at e;obtain⟨rfl,_⟩:=e;simp[RB]at k'
 | .bool,cs,x,0,t,y,v,h,e,hv,k' =>by
  simp only[BN,AMO,APl]at e;obtain⟨rfl,_⟩:=e;simp[RB]at k'
 | .str,cs,x,0,t,y,v,h,e,hv,k' =>by
  simp only[BN,AMO,APl]at e;obtain⟨rfl,_⟩:=e;simp[RB]at k'
 | .sl r,cs,x,0,t,y,v,h,e,hv,k=>by
  simp only[BN,AMO,APl]at e;obtain⟨rfl,e⟩:=e;obtain rfl:=ARM e;have hl:=kN h;simp only[Ty.n]at hl;obtain⟨u,rfl⟩:=List.length_eq_one_iff.1 hl;simp_all
 | .unit,_,_,_,_,_,_,_,e,_,_=>by simp[BN]at e
 | .int _,_,_,_+1,_,_,_,_,e,_,_=>by simp[BN]at e
 | .bool,_,_,_+1,_,_,_,_,e,_,_=>by simp[BN]at e
 | .str,_,_,_+1,_,_,_,_,e,_,_=>by simp[BN]at e
 | .sl _,_,_,_+1,_,_,_,_,e,_,_=>by simp[BN]at e
section
variable{P:Program} {T:J0} (hT:Ei P T) {E:Env} {w:World}
include hT
theorem rX{σ:St}{Fs:List ABH}(hB:Ns E w σ.bx σ.bx Fs)(st:∀c,E.S c→E.T c){t:Nat}{x:AV}{z:XV}(e:lI T t σ (.c x)=some z){v:Value}(hx:VR E w σ.bx x v):
  ∃bb oo u y,v= .pointer (some ⟨bb,oo,none⟩)∧Ja σ.bx x 0=some y∧XR E w σ.bx z u∧ ∀w',w'.heap[bb]? =w.heap[bb]?→(Instr.loadAt t v).run P w' = .ok u w':=by
 unfold lI at e;split at e
 case h_2=>cases e
 rename_i x' ti hx' VC;cases hx';split at e
 case isTrue=>cases e
 rename_i Pe;have iQ:=fun w=>Ei.isAgg hT VC w
 split at e
 ·rename_i ha
  simp only[AMU]at e;obtain⟨l,hl,rfl⟩:=e;obtain⟨h1,h2⟩:=bF hl;have h0:0<l.length:=by omega
  obtain⟨b,o,u,hv,_,_⟩:=MC hB st (h2 0 _ (AMJ h0)) hx;obtain⟨cs,c1,c2,c3⟩:=dY hB st hx hv (l:=l) (j:=0) (fun i y hy=>by simp_all);subst hv;have iO:=(hT t ti VC).und;cases hd:ti.desc with
  |st fs=>
   rw[hd]at iO;obtain⟨fields,hu,_⟩:=iO;refine⟨b,o,.agg cs.toArray,_,rfl,by simpa using h2 0 _ (AMJ h0),⟨cs.toArray,rfl,by omega⟩,fun w' hw=>run_loadAt_mid w' b o t cs _ (by have:=c2.of_block hw;grind[Bb,World.rangeAt]) hu rfl ?_⟩;grind[Ei.size]
  |_=>grind[TD.agg]
 ·rename_i ha
  simp only[AQv]at ha;simp only[AMU]at e;obtain⟨y,hy,rfl⟩:=e;obtain⟨b,o,u,hv,hc,hr⟩:=MC hB st hy hx;subst hv;refine⟨b,o,u,y,rfl,hy,hr,fun w' hw=> ?_⟩;have AMK:=iQ w';rw[ha]at AMK;simp only[ASI]at hc;have cV:w'.cell? ⟨b,o,none⟩=some u:=by grind[World.cell?_of_block]
  simp[Instr.loadAt,Instr.sureAddr,loadVar,AMK,cV]
end
theorem ug{E E':Env}{w w':World}{vw vw':List Bx}{t:Ty}{x:t.D}{v:Value}(h:VR E w vw (.v t x) v):VR E' w' vw' (.v t x) v:=by
 obtain⟨h1,h2⟩:=h;refine⟨h1,?_⟩;cases t<;>simp_all[Ty.scalar,Rd]
theorem jG{E E':Env}{w w':World}{vw vw':List Bx}{t:Ty}{x:t.D}{v u:Value}(h:VR E w vw (.v t x) v)(k:VR E' w' vw' (.v t x) u):v=u:=by
 obtain⟨h1,h2⟩:=h;obtain⟨_,k2⟩:=k;cases t<;>simp_all[Ty.scalar,Rd]
def kW(x:XV):Prop:=(∃t z,x= .c (.v t z))∨(∃l,x= .agg l∧ ∀c∈l,∃t z,c= .v t z)
theorem M1{E E':Env}{w w':World}{vw vw':List Bx}{x:XV}{v:Value}(hp:kW x)(h:XR E w vw x v):XR E' w' vw' x v:=by
 rcases hp with⟨t,z,rfl⟩|⟨l,rfl,hl⟩
 ·exact ug (E:=E) (w:=w) (vw:=vw) (E':=E') (w':=w') (vw':=vw') h
 ·obtain⟨vs,rfl,V6⟩:=h
  refine⟨vs,rfl,?_⟩
  generalize vs.toList=m at V6
  induction l generalizing m with
  |nil=>cases m with
   |nil=>trivial
   |cons _ _=>exact V6.elim
  |cons c l ih=>cases m with
   |nil=>exact V6.elim
   |cons u m=>
    obtain⟨t,z,rfl⟩:=hl c (by simp);exact⟨ug V6.1,ih (fun c hc=>hl c (by simp[hc])) m V6.2⟩
theorem su{d:TD}{x z:AV}{p:Bool}(e:pP d x z=some p):(∃t y,x= .v t y)∧ ∃t y,z= .v t y:=by
 unfold pP at e;grind
theorem ZK{T:J0}:∀{i:Nat} {fs:List ABg} {l m:List AV} {r:Bool},LX T i fs l m=some r→(∀c∈l,∃t z,c= .v t z)∧ ∀c∈m,∃t z,c= .v t z
 |i,[],[],[],r,e=>by simp
 |i,(o,t)::fs,x::l,z::m,r,e=>by
  simp only[LX]at e;split at e
  case isFalse=>cases e
  split at e
  case h_2=>cases e
  split at e
  case h_2=>cases e
  rename_i p hp;simp only[AMU]at e;obtain⟨r',e1,_⟩:=e;obtain⟨a1,a2⟩:=su hp;obtain⟨b1,b2⟩:=ZK e1;simp_all
 |_,[],[],_::_,_,e=>by simp[LX]at e
 |_,[],_::_,_,_,e=>by simp[LX]at e
 |_,_::_,[],_,_,e=>by simp[LX]at e
 |_,_::_,_::_,[],_,e=>by simp[LX]at e
theorem AFo{op:BinOp}{κ:IntKind}{a b:Int}{r:AV}(e:fQ op κ a b some=some r):∃t x,r= .v t x:=by
 cases op<;>simp only[fQ,AMO]at e<;>first
  |exact⟨_,_,e.symm⟩
  |(grind)
  |cases e
theorem AAY{op:BinOp}{κ:IntKind}{a b:Int}{r:AV}(e:Yg op κ a b some=some r):∃t x,r= .v t x:=by
 unfold Yg at e;grind
theorem AHD{op:BinOp}{a b:ABY}{r:AV}(e:jO op a b some=some r):∃t x,r= .v t x:=by
 cases op<;>simp only[jO,AMO]at e<;>first
  |exact⟨_,_,e.symm⟩
  |(
   split at e
   all_goals grind)
  |cases e
theorem APN{T:J0}{t:Nat}{op:BinOp}{a b:XV}{r:AV}(e:uq T t op a b some=some r):(∃t x,r= .v t x)∧kW a∧kW b:=by
 unfold uq at e;split at e
 ·refine⟨?_,.inl ⟨_,_,rfl⟩,.inl ⟨_,_,rfl⟩⟩
  grind[AAY,AFo]
 ·exact⟨AHD e,.inl ⟨_,_,rfl⟩,.inl ⟨_,_,rfl⟩⟩
 ·refine⟨?_,.inl ⟨_,_,rfl⟩,.inl ⟨_,_,rfl⟩⟩
  grind
 ·split at e
  ·rename_i hq
   rw[AMi]at hq;obtain⟨fs,_,hq⟩:=hq;obtain⟨q1,q2⟩:=ZK hq;cases e;exact⟨⟨_,_,rfl⟩,.inr ⟨_,rfl,q1⟩,.inr ⟨_,rfl,q2⟩⟩
  ·rename_i hq
   rw[AMi]at hq;obtain⟨fs,_,hq⟩:=hq;obtain⟨q1,q2⟩:=ZK hq;cases e;exact⟨⟨_,_,rfl⟩,.inr ⟨_,rfl,q1⟩,.inr ⟨_,rfl,q2⟩⟩
  simp_all
 simp_all
theorem ACY{g:Bool}{a b:XV}{r:AV}(e:tJ g a b some=some r):(∃t x,r= .v t x)∧kW a∧kW b:=by
 unfold tJ at e;split at e
 ·refine⟨?_,.inl ⟨_,_,rfl⟩,.inl ⟨_,_,rfl⟩⟩
  grind
 simp_all
theorem ASz{op:UnOp}{a:XV}{r:AV}(e:unX op a some=some r):(∃t x,r= .v t x)∧kW a:=by
 unfold unX at e;split at e
 ·cases e;exact⟨⟨_,_,rfl⟩,.inl ⟨_,_,rfl⟩⟩
 ·cases e;exact⟨⟨_,_,rfl⟩,.inl ⟨_,_,rfl⟩⟩
 simp_all
section
variable{Y:Type} {P:Program} {T:J0} (hT:Ei P T) {Γ:Nat→Option QB} {o:Oper} {E:Env} {σ:St} {a:Act} {w:World} {k:K Y} {y:Y}
include hT
theorem ABK(h:Rel E σ a w){t:TypeId}(ps:Array (Nat×Operand)){s b:Nat}{fs:List ABg}{rw:Option Ty}(VC:T.get t=some ⟨s,b,.st fs,rw⟩){r:Ty}(hr:T.ir t=some r)
  {cs:List AV} (hb:gJ T fs (bC r) (ps.toList.map fun q=>(q.1,σ.ev q.2))=some cs):
  ∃Kf,(∀w',(Instr.build t (ps.map fun(i,x)=>(i,a.eval x))).run P w' = .ok (.agg Kf) w')∧iy E w σ.bx cs Kf.toList:=by
 obtain⟨i,z,h1,h2,h3,_⟩:=row_zero hT hr;obtain⟨fields,hu,hfs,Pe⟩:=AF6 hT VC;obtain⟨Kf,f1,f2⟩:=bP hT (pq h ps) (arr:=z.cells) (by grind[YF]) hb;refine⟨Kf,fun w' => ?_,f2⟩;have hb:P.built t (ps.map fun(i,x)=>(i,a.eval x)).toList=some Kf:=by
  unfold Program.built;simp only[h1,hu,h2];have hm:fields.toList.mapM (fun f=>(P.info? f.type).map fun i=>(f.offset,i.size))=some (fields.toList.map fun f=>(f.offset,((P.info? f.type).map (·.size)).getD 0)):=by
   grind[oc]
  simp only[hm];rw[←f1];congr 1;funext n;subst hfs;simp only[List.getElem?_toArray,ARa];cases hn:fields.toList[n]? with
  |none=>simp
  |some f=>
   obtain⟨i',DE,_⟩:=Pe f (AQq hn);simp[DE]
 grind[run_build]
theorem wz{hint:ABH}(h:Rel E σ a w)(hq:gz hint σ o.op=true)(e:W5 T Γ o σ k=some y):
  ∃v x,XR E w σ.bx x v∧k x σ=some y∧ ∀w',pC (Kof hint E w σ.bx) w w'→(execOp a.eval o).run P w' = .ok (.value v) w':=by
 obtain⟨Fs,hB,hS⟩:=h.bx;have st:=hS.st;have wf:∀{s:Sem Value} {v:Value},WF P s→s.run P w= .ok v w→ ∀w',s.run P w' = .ok v w':=fun h1 h2 w' =>h1 w _ w h2 w'
 unfold W5 at e;split at e
 ·rename_i x ho
  exact⟨a.eval x,_,h.ev x,e,fun w' _=>by grind[execOp,Sem.run_pure]⟩
 ·rename_i x ho
  unfold aa at e;split at e
  ·grind[gz]
  ·exact⟨a.eval x,_,h.ev x,e,fun w' _=>by grind[execOp,Sem.run_pure]⟩
 ·rename_i c xa xb ho
  split at e
  case h_2=>cases e
  rename_i p hp;have hc:=h.ev c;rw[hp]at hc;have cV:=Rj (E:=E) (w:=w) (vw:=σ.bx) hc;refine⟨if p then a.eval xa else a.eval xb,if p then σ.ev xa else σ.ev xb,by cases p<;>simp[h.ev],by grind[ACx],fun w' _=>by simp[execOp,ho,cV,asBool]⟩
 ·rename_i t ho;rw[ho]at hq;cases hq
 ·rename_i t x ho;rw[ho]at hq;cases hq
 ·rename_i t ps ho
  split at e
  case h_2=>cases e
  rename_i s b fs rw r VC hr;split at e
  case h_2=>cases e
  rename_i cs vh;obtain⟨Kf,h1,h2⟩:=ABK hT h ps VC hr vh;exact⟨.agg Kf,.agg cs,⟨Kf,rfl,h2⟩,e,fun w' _=>by grind[execOp,Sem.run_bind,Result.andThen_ok,Sem.run_pure]⟩
 ·rename_i t n ps ho;rw[ho]at hq;cases hq
 ·rename_i t x ho
  rw[ho]at hq;split at e
  case h_2=>cases e
  rename_i z hz;have hv:=h.ev x;simp only[gz]at hq
  generalize hX:σ.ev x=X at hq hv hz
  cases X with
  |agg l=>cases hq
  |Nr l=>cases hq
  |c ad=>
   obtain⟨bb,oo,u,cell,hp,hc,h2,h3⟩:=rX hT hB st hz hv;refine⟨u,z,h2,e,fun w' qc=> ?_⟩;have hbb:w'.heap[bb]? =w.heap[bb]?:=by
    refine qc bb ?_
    have Yj:VR E w σ.bx ad (a.eval x):=hv;cases ad with
    |Im b j=>
     simp only[ga,ASE]at hq;simp only[Ja]at hc;split at hc
     ·rename_i cs hb
      refine .inr ⟨b,_,hq,hb,?_⟩;have:=Yj.2;rw[hp]at this;simp only[Value.pointer.injEq,AMO,Addr.mk.injEq]at this;exact this.1
     simp_all
    |Jk b p i sz j=>
     simp only[ga,ASE]at hq;simp only[Ja]at hc;split at hc
     ·rename_i d q rows hb
      refine .inr ⟨b,_,hq,hb,?_⟩;simp only[VR,hb]at Yj;obtain⟨_,hpp,q1,ys,b2,o2,len,cap,g1,g2,g3,g4⟩:=Yj;rw[hp]at g4;simp only[Value.pointer.injEq,AMO,Addr.mk.injEq]at g4;obtain⟨rfl,_⟩:=g4;obtain⟨F,⟨_,ho2⟩,_⟩:=hB.get hb;exact zL (Xr ho2) hpp g1 g3 g2
     simp_all
    |Pg s r z j=>
     obtain⟨b2,o2,cs,g1,g2,_⟩:=Yj;rw[hp]at g1;simp only[Value.pointer.injEq,AMO,Addr.mk.injEq]at g1;obtain⟨rfl,_⟩:=g1
     left
     grind
    |_=>cases hq
   grind[execOp,Sem.run_bind,Result.andThen_ok,Sem.run_pure]
 ·rename_i t xa xx ho;rw[ho]at hq;cases hq
 ·rename_i x ho
  have hx:=h.ev x;split at e
  ·rename_i b j hp
   rw[hp]at hx;have hx':b<σ.bx.length∧a.eval x= .pointer (some ⟨E.ID b,j,none⟩):=hx;grind[execOp,Sem.run_pure]
  ·rename_i b p i sz j hp
   rw[hp]at hx;have hpt:bz (a.eval x)=true:=hx.1;grind[bz,execOp,Sem.run_pure]
  ·rename_i s r z j hp
   rw[hp]at hx;obtain⟨bb,oo,cs,hv,hrest⟩:=hx;exact⟨a.eval x,.c (.Pg s r z j),⟨bb,oo,cs,hv,hrest⟩,e,fun w' _=>by grind[execOp,Sem.run_pure]⟩
  ·rename_i f Kk hp
   rw[hp]at hx;have hx':(∀b∈Kk,b<σ.bx.length)∧a.eval x= .func (.func f) #[] (Kk.map fun b=>Value.pointer (some ⟨E.ID b,0,none⟩)).toArray:=hx;grind[execOp,Sem.run_pure]
  simp_all
 ·rename_i op t x z s ho
  rw[nq,AMi]at e;obtain⟨r,e1,e⟩:=e;obtain⟨⟨t',x',rfl⟩,p1,p2⟩:=APN e1;obtain⟨r0,val,h1,h2,h3⟩:=gX hT e1 (h.ev x) (h.ev z) x z;cases h1;refine⟨val,.c (.v t' x'),h3,e,fun w' _=> ?_⟩;obtain⟨r1,val',g1,g2,g3⟩:=gX hT e1 (M1 (E':=E) (w':=w') (vw':=σ.bx) p1 (h.ev x)) (M1 p2 (h.ev z)) x z;cases g1;have:=jG h3 g3;subst this;simp only[execOp,ho,Sem.run_bind];simp_all
 ·rename_i op t x ho
  rw[sw,AMi]at e;obtain⟨r,e1,e⟩:=e;obtain⟨⟨t',x',rfl⟩,p1⟩:=ASz e1;obtain⟨r0,val,h1,h2,h3⟩:=kL (P:=P) e1 (h.ev x);cases h1;refine⟨val,.c (.v t' x'),h3,e,fun w' _=> ?_⟩;obtain⟨r1,val',g1,g2,g3⟩:=kL (P:=P) e1 (M1 (E':=E) (w':=w') (vw':=σ.bx) p1 (h.ev x));grind[jG,execOp,Sem.run_bind,Result.andThen_ok,Sem.run_pure]
 ·rename_i s d x ho;rw[ho]at hq;cases hq
 ·rename_i f first Kk ho;rw[ho]at hq;cases hq
 ·rename_i t l c ho;rw[ho]at hq;cases hq
 ·rename_i t x lo hi ho
  obtain⟨z,val,h1,h2,h3⟩:=jS hT hB st e (h.ev x) (yh h lo) (yh h hi);exact⟨val,z,h3,h1,fun w' _=>by simp only[execOp,ho,Option.map_none,Sem.run_bind,wf (WF.sliceAt _ _ _ _) h2 w',Result.andThen_ok,Sem.run_pure]⟩
 ·rename_i t x f ho
  split at e
  case h_2=>cases e
  rename_i z hz;obtain⟨u,h1,h2⟩:=iL hT hz (h.ev x);refine⟨u,z,h2,e,fun w' _=> ?_⟩;have hw:(Instr.fieldAt t (a.eval x) f).run P w' = .ok u w':=by
   have hx:=h.ev x;unfold te at hz;split at hz
   case h_2=>cases hz
   rename_i s b fs _ VC;split at hz
   case h_2=>cases hz
   rename_i o' u' hf;have key:∀ad,a.eval x= .pointer (some ad)→(Instr.fieldAt t (a.eval x) f).run P w' = .ok u w':=by
    intro ad had;rw[had]at h1⊢;have r1:=VJ hT (w:=w) VC hf (a:=ad);grind[VJ]
   split at hz
   ·rename_i b' j hp
    rw[hp]at hx;exact key _ hx.2
   ·rename_i b' p i sz j hp
    rw[hp]at hx;have hpt:bz (a.eval x)=true:=hx.1;unfold bz at hpt;grind
   ·rename_i s r y' j hp
    rw[hp]at hx;obtain⟨bb,oo,cs,hv,_⟩:=hx;simp_all
   simp_all
  grind[execOp,Sem.run_bind,Result.andThen_ok,Sem.run_pure]
 ·rename_i t x f ho
  split at e
  case h_2=>cases e
  rename_i z hz;obtain⟨u,h1,h2⟩:=lS hT hz (h.ev x);exact⟨u,z,h2,e,fun w' _=>by simp only[execOp,ho,Sem.run_bind,wf (WF.field _ _ _) h1 w',Result.andThen_ok,Sem.run_pure]⟩
 ·rename_i t x i ho
  obtain⟨z,val,h1,h2,h3⟩:=jR hT hB st e (h.ev x) (h.ev i);exact⟨val,z,h3,h1,fun w' _=>by simp only[execOp,ho,Sem.run_bind,wf (WF.indexAt _ _ _) h2 w',Result.andThen_ok,Sem.run_pure]⟩
 ·rename_i t x i ho
  obtain⟨z,val,h1,h2,h3⟩:=bt hT e (h.ev x) (h.ev i);exact⟨val,z,h3,h1,fun w' _=>by simp only[execOp,ho,Sem.run_bind,wf (WF.index _ _ _) h2 w',Result.andThen_ok,Sem.run_pure]⟩
 ·rename_i x i ho
  split at e
  case h_2=>cases e
  rename_i z hz;obtain⟨u,h1,h2⟩:=cz (P:=P) hz (h.ev x);exact⟨u,z,h2,e,fun w' _=>by simp only[execOp,ho,Sem.run_bind,wf (WF.extract _ _) h1 w',Result.andThen_ok,Sem.run_pure]⟩
 ·rename_i f args ql ho;rw[ho]at hq;cases hq
 ·rename_i args ql ho
  split at e
  ·rename_i s t Ie hts
   obtain⟨x,rfl,hx⟩:=XJ Ie;have hv:=h.ev x;rw[hx]at hv;have Yj:=Xx (E:=E) (w:=w) (vw:=σ.bx) hv;split at e
   case isFalse=>cases e
   rename_i hs;have hu:=Xk hT hs;refine⟨.int .i64 (s.length:Int),.c (.v (.int .i64) (s.length:Int)),VR.int (E:=E) (vw:=σ.bx) _ _,e,fun w' _=> ?_⟩;have Pe:(⟨s.toArray⟩:ByteArray).size=s.length:=by rfl
   simp[execOp,ho,resolve,invoke,builtin,Builtin.len_,hts,Yj,BW hu,goInt,Pe]
  ·rename_i z t _ Ie hts
   obtain⟨x,rfl,hx⟩:=XJ Ie;have hv:=h.ev x;rw[hx]at hv;split at e
   case isFalse=>cases e
   rename_i hs;split at e
   case h_2=>cases e
   rename_i n hn;obtain⟨el,hu⟩:=js hT hs;obtain⟨ad,cap,Yj⟩:=lK hB st hn hv;refine⟨.int .i64 (n:Int),.c (.v (.int .i64) (n:Int)),VR.int (E:=E) (vw:=σ.bx) _ _,e,fun w' _=> ?_⟩;simp[execOp,ho,resolve,invoke,builtin,Builtin.len_,hts,Yj,BW hu,goInt]
  simp_all
 ·rename_i args ql ho;rw[ho]at hq;cases hq
 ·rename_i args ql ho;rw[ho]at hq;cases hq
 ·rename_i args ql ho
  split at e
  case h_2=>cases e
  rename_i x1 x2 Ie;obtain⟨o1,o2,rfl,hx1,hx2⟩:=Xi Ie;have bc:=h.ev o1;have aS:=h.ev o2;rw[hx1]at bc;rw[hx2]at aS;rw[aQ,AMi]at e;obtain⟨r,e1,e⟩:=e;obtain⟨⟨t',x',rfl⟩,p1,p2⟩:=ACY e1;obtain⟨r0,val,h1,h2,h3⟩:=UB (P:=P) (big:=true) e1 bc aS ql #[] o.type;cases h1;refine⟨val,.c (.v t' x'),h3,e,fun w' _=> ?_⟩;obtain⟨r1,val',g1,g2,g3⟩:=UB (P:=P) (big:=true) e1 (M1 (E':=E) (w':=w') (vw':=σ.bx) p1 bc) (M1 p2 aS) ql #[] o.type;cases g1;have:=jG h3 g3;subst this;simp only[ARj]at g2;simp[execOp,ho,resolve,invoke,builtin,g2]
 ·rename_i args ql ho
  split at e
  case h_2=>cases e
  rename_i x1 x2 Ie;obtain⟨o1,o2,rfl,hx1,hx2⟩:=Xi Ie;have bc:=h.ev o1;have aS:=h.ev o2;rw[hx1]at bc;rw[hx2]at aS;rw[aQ,AMi]at e;obtain⟨r,e1,e⟩:=e;obtain⟨⟨t',x',rfl⟩,p1,p2⟩:=ACY e1;obtain⟨r0,val,h1,h2,h3⟩:=UB (P:=P) (big:=false) e1 bc aS ql #[] o.type;cases h1;refine⟨val,.c (.v t' x'),h3,e,fun w' _=> ?_⟩;obtain⟨r1,val',g1,g2,g3⟩:=UB (P:=P) (big:=false) e1 (M1 (E':=E) (w':=w') (vw':=σ.bx) p1 bc) (M1 p2 aS) ql #[] o.type;cases g1;have:=jG h3 g3;subst this;simp only[AMZ,AQb]at g2;simp[execOp,ho,resolve,invoke,builtin,g2]
 simp_all
end
end Go.Fw
end
section
namespace Go.Fw
section
variable{P:Program} {md:Region.Mode} {ops:Array Oper} {Q:Exit→Act→World→Prop}
theorem pC.refl(K:Nat→Prop)(w:World):pC K w w:=fun _ _=>rfl
def ub(P:Program)(md:Region.Mode)(ops:Array Oper)(Q:Exit→Act→World→Prop):Nat→Array Bool→(Nat→Prop)→Act→World→Prop
 |0,listed,_,a,w=>Region.ready md ops listed=[]∧Q .normal a w
 |fuel+1,listed,K,a,w=>(Region.ready md ops listed=[]→Q .normal a w)∧
  ∀i∈Region.ready md ops listed,wpOp P ops Q i (fun a' w' => ∃K':Nat→Prop,(∀c,K c→K' c)∧pC K w w'∧ub P md ops Q fuel (listed.setIfInBounds i true) K' a' w') a w
theorem rH:∀(fuel:Nat) (listed:Array Bool) (K:Nat→Prop) (a:Act) (w:World),ub P md ops Q fuel listed K a w→wpAny P md ops Q fuel listed a w
 |0,_,_,_,_,h=>h
 |fuel+1,_,_,_,_,h=>⟨h.1,fun i hi=>wpOp_mono (fun a' w' ⟨K',_,_,h'⟩=>rH fuel _ K' a' w' h') (h.2 i hi)⟩
theorem YieldsIf.mono{S S':World→Prop}{o:Oper}{v:Value}{a:Act}(h:YieldsIf P ops S o v a)(hs:∀w,S' w→S w):YieldsIf P ops S' o v a:=
 h.imp (fun⟨h1,h2⟩=>⟨h1,fun w hw=>h2 w (hs w hw)⟩) id
theorem lJ{i:Nat}{oi:Oper}{v:Value}(hi:ops[i]? =some oi)(ACv:∀(j:Nat) (o:Oper) cs b,ops[j]? =some o→o.op≠ .select cs b)(hQ:∀c a w,¬Q (.panic c) a w):
  ∀(fuel:Nat) (listed:Array Bool) (K:Nat→Prop) (a:Act) (w:World),
   (∀j oj,ops[j]? =some oj→j≠i→listed.getD j true=false→(∀e∈oj.after,Region.binds md e=true→e.on≠i)→oi.apart ops oj=true)→
   i∈Region.ready md ops listed→YieldsIf P ops (pC K w) oi v a→ub P md ops Q fuel (listed.setIfInBounds i true) K (a.put oi.dst v) w→ub P md ops Q (fuel+1) listed K a w:=by
 intro fuel
 induction fuel with
 |zero=>
  intro listed K a w _ hr hy H;refine⟨fun h=>(by simp_all),fun j hj=> ?_⟩;by_cases hji:j=i
  ·subst hji;exact hy.wpOp hi (pC.refl K w) ⟨K,fun _ h=>h,pC.refl K w,H⟩
  ·have:=ready_mono hj hji
   rw[H.1]at this;cases this
 |succ fuel ih=>
  intro listed K a w bm hr hy H;refine⟨fun h=>(by simp_all),fun j hj=> ?_⟩;by_cases hji:j=i
  ·subst hji;exact hy.wpOp hi (pC.refl K w) ⟨K,fun _ h=>h,pC.refl K w,H⟩
  ·have h1:=H.2 j (ready_mono hj hji)
   obtain⟨hjun,oj,hoj,fj⟩:=mem_ready.1 hj;have AT2:∀e∈oj.after,Region.binds md e=true→e.on≠i:=fun e he hb heq=>by
    grind[mem_ready,Nat.lt_or_ge,Array.getElem?_eq_none]
   have h2:=wpOp_putIf hoj (bm j oj hoj hji hjun AT2) (fun cs b=>ACv i oi cs b hi) (fun cs b=>ACv j oj cs b hoj) (fun c a w h=>absurd h (hQ c _ w)) hy h1;have APu:∀k ok,ops[k]? =some ok→k≠i→(listed.setIfInBounds j true).getD k true=false→
     (∀e∈ok.after,Region.binds md e=true→e.on≠i)→oi.apart ops ok=true:=fun k ok hk hki hun hno=>by
    refine bm k ok hk hki ?_ hno
    by_cases hjk:j=k
    all_goals simp_all
   refine wpOp_mono (fun a' w' h3=> ?_) h2;obtain⟨vA,K',hK,hs,ht⟩:=h3;refine⟨K',hK,hs,ih (listed.setIfInBounds j true) K' a' w' APu (ready_mono hr (Ne.symm hji)) (YieldsIf.mono vA fun w'' AZI c hc=>(AZI c (hK c hc)).trans (hs c hc)) ?_⟩;grind[Array.setIfInBounds_comm]
end
theorem lf{Y:Type}{f:Nat→List Bool→Option Y}{y:Y}:∀{rs:ABH},(∀ω,sL f rs ω=some y)→ ∀i∈rs,∀ω,f i ω=some y
 |[i],h,j,hj,ω=>by
  simp at hj;subst hj;exact h ω
 |i::j::r,h,k,hk,ω=>by
  rcases AQw.1 hk with rfl|hk
  ·exact h (true::ω)
  ·exact lf (rs:=j::r) (fun ω=>h (false::ω)) k hk ω
theorem vO{σ:St}{t:Nat}{b:Bool}(e:σ.tm[t]? =some (.c (.v .bool b))):σ.put (some t) (.c (.v .bool b))=σ:=by
 simp only[St.put];obtain⟨tm,bx⟩:=σ;simp only[St.mk.injEq,ARx];obtain⟨FW,he⟩:=AMX.1 e;apply ATl;grind
theorem rF{Y I:Type}[Nonempty I]{C:Zo}{ops:Array Oper}{o:Oper}{kn:I→St→Option Y}{σ:St}{y:Y}{E:Env}{a:Act}{w:World}(h:Rel E σ a w)
  (e:∀ω,ya C ops o (kn ω) σ=some y):
  (Region.wanted o (yielded ops a.tmps)=true∧ ∀ω,(W5 C.T C.Γ o σ fun x σ' =>kn ω (σ'.put o.dst x))=some y)∨
  (Region.wanted o (yielded ops a.tmps)=false∧ ∀ω,kn ω (σ.put o.dst (.Nr []))=some y):=by
 unfold ya at e;cases hg:o.guard with
 |none=>
  simp only[hg]at e;grind[Region.wanted]
 |some q=>
  obtain⟨j,want⟩:=q;simp only[hg]at e;cases ht:(ops[j]?).bind (·.dst)with
  |none=>
   simp_all
  |some t=>
   simp only[ht]at e;obtain⟨i0⟩:= ‹Nonempty I›;have e0:=e i0;split at e0
   ·rename_i b hb
    simp only[hb]at e;obtain⟨v,hv,hx⟩:=h.tmp hb;have hvb:=Rj (E:=E) (w:=w) (vw:=σ.bx) hx;subst hvb;have hy:yielded ops a.tmps j=some b:=by rw[aj ht hv];rfl
    have hk:=vO hb;cases b with
    |true=>
     simp only[AOK,tt,hk]at e;cases want with
     |true=>grind[Region.wanted]
     |false=>grind[Region.wanted]
    |false=>
     simp only[AMW,ff,hk]at e;cases want with
     |true=>grind[Region.wanted]
     |false=>grind[Region.wanted]
   ·rename_i hb
    simp only[hb]at e;obtain⟨v,hv,vs,rfl,hx⟩:=h.tmp hb;grind[yielded,aj,Region.wanted]
   simp_all
theorem ACa{ops:Array Oper}{o:Oper}{σ:St}{E:Env}{a:Act}{w:World}(h:Rel E σ a w)(e:idle ops σ o=true):Region.wanted o (yielded ops a.tmps)=false:=by
 unfold idle at e;cases hg:o.guard with
 |none=>simp_all
 |some q=>
  obtain⟨j,want⟩:=q;simp only[hg]at e;cases ht:(ops[j]?).bind (·.dst)with
  |none=>simp_all
  |some t=>
   simp only[ht]at e;split at e
   ·rename_i b hb
    obtain⟨v,hv,hx⟩:=h.tmp hb;have hvb:=Rj (E:=E) (w:=w) (vw:=σ.bx) hx;grind[yielded,aj,Region.wanted]
   ·rename_i hb
    obtain⟨v,hv,vs,rfl,hx⟩:=h.tmp hb;grind[yielded,aj,Region.wanted]
   simp_all
theorem rE{Y I:Type}[Nonempty I]{C:Zo}{ops:Array Oper}{i:Nat}{o:Oper}(ho:ops[i]? =some o){kn:I→St→Option Y}{σ:St}{y:Y}{E:Env}{a:Act}{w:World}(h:Rel E σ a w)
  (e:∀ω,ye C ops i (kn ω) σ=some y):
  (Region.wanted o (yielded ops a.tmps)=true∧ ∀ω,(W5 C.T C.Γ o σ fun x σ' =>kn ω (σ'.put o.dst x))=some y)∨
  (Region.wanted o (yielded ops a.tmps)=false∧ ∀ω,kn ω (σ.put o.dst (.Nr []))=some y):=
 rF h fun ω=>by
  grind[ye]
theorem ABu{hint t:ABH}{E E':Env}{bx Qu:List Bx}{w w':World}(h:Rg t E bx w E' Qu w')(ht:∀b∈t,b∉hint)(ha:∀b∈hint,ji Qu b=false):
  (∀c,Kof hint E w bx c→Kof hint E' w' Qu c)∧pC (Kof hint E w bx) w w':=by
 have key:∀n B,n∈hint→bx[n]? =some B→ ∃B',Qu[n]? =some B'∧Vf B B'∧ ∀c,wZ E w n B c→w'.heap[c]? =w.heap[c]?:=by
  intro n B hn hB;have hd:=ha n hn;unfold ji at hd;split at hd
  ·cases hd
  ·rename_i B' ax T3
   obtain⟨h1,h2⟩:=h.frame n B B' (fun hm=>ht n hm hn) hB T3 ax;simp_all
  simp_all
 refine⟨fun c hc=> ?_,fun c hc=> ?_⟩
 ·rcases hc with hc|⟨n,B,hn,hB,hc⟩
  ·exact .inl (h.base.T c hc)
  ·obtain⟨B',T3,hs,hh⟩:=key n B hn hB
   have hid:=h.ids n (AMX.1 hB).1;refine .inr ⟨n,B',hn,T3,?_⟩;cases B with
   |mem cs=>
    cases B' with
    |mem dL=>grind[wZ]
    |sl _ _ _=>exact hs.elim
    |dead=>exact hs.elim
   |sl d r rows=>
    cases B' with
    |mem dL=>exact hs.elim
    |dead=>exact hs.elim
    |sl d' r' Cz=>
     simp only[Vf,APl]at hs;obtain⟨rfl,hs⟩:=hs;obtain rfl:=ARM hs;grind[wZ,nA]
   |dead=>exact hc.elim
 ·rcases hc with hc|⟨n,B,hn,hB,hc⟩
  ·exact h.base.heap c hc
  grind
theorem Zb{Y:Type}{C:Zo}{hint:ABH}{ops:Array Oper}{kn:List Bool→St→Option Y}{fuel:Nat}{listed:Array Bool}{ω:List Bool}{σ:St}{y:Y}(e:UQ C hint ops kn fuel listed ω σ=some y):∀b∈hint,ji σ.bx b=false:=by
 grind[UQ,List.all_eq_true]
theorem si{Y:Type}{P:Program}{C:Zo}(hT:Ei P C.T)(hΓ:gV P C.Γ){E0:Env}{w0:World}{N nb:Nat}{hint:ABH}{ops:Array Oper}{kn:List Bool→St→Option Y}{y:Y}{Q:Exit→Act→World→Prop}
  (ACv:Region.noSelect ops=true) (hP:∀c a w,¬Q (.panic c) a w) (hk:∀E σ a w,Ok E0 w0 N nb E σ a w→(∀ω,kn ω σ=some y)→Q .normal a w):
  ∀(fuel:Nat) {listed:Array Bool} {E:Env} {σ:St} {a:Act} {w:World},Ok E0 w0 N nb E σ a w→(∀ω,UQ C hint ops kn fuel listed ω σ=some y)→ub P .any ops Q fuel listed (Kof hint E w σ.bx) a w:=by
 intro fuel
 induction fuel with
 |zero=>
  intro listed E σ a w h e;have e1:=fun ω=>e ω
  unfold UQ at e1;have z_:=Zb (e []);have AN2:(hint.all fun b=> !ji σ.bx b)=true:=ARv.2 fun b hb=>by simp_all
  simp only[AN2,ARj]at e1;cases hr:Region.ready .any ops listed with
  |nil=>
   simp only[hr]at e1;exact⟨hr,hk E σ a w h e1⟩
  |cons i rs=>
   simp_all
 |succ fuel ih=>
  intro listed E σ a w h e;have e1:=fun ω=>e ω
  unfold UQ at e1;have z_:=Zb (e []);have AN2:(hint.all fun b=> !ji σ.bx b)=true:=ARv.2 fun b hb=>by simp_all
  simp only[AN2,ARj]at e1;cases hr:Region.ready .any ops listed with
  |nil=>
   simp only[hr]at e1;exact⟨fun _=>hk E σ a w h e1,by simp_all⟩
  |cons i0 rs=>
   simp only[hr]at e1;cases hf:(i0::rs).find? (oS hint ops listed σ)with
   |some i=>
    simp only[hf]at e1;have hi:=ATW hf;have ht:=List.find?_some hf
    unfold oS at ht;cases ho:ops[i]? with
    |none=>simp_all
    |some o=>
     simp only[ho,AMY]at ht;have bm:=Region.free_spec ho ht.2;rw[←hr]at hi;have hy:=rE (I:=List Bool) (kn:=fun ω σ' =>UQ C hint ops kn fuel (listed.setIfInBounds i true) ω σ') ho h.rel e1;rcases hy with⟨hw,hx⟩|⟨hw,hx⟩
     ·have hq:gz hint σ o.op=true:=by
       rcases ARt _ _▸ht.1 with hq|hi
       ·omega
       ·rw[ACa h.rel hi]at hw
        cases hw
      obtain⟨x,σ',hx0,hx1⟩:=kD hx;obtain⟨v,x',q1,q2,q3⟩:=wz hT h.rel hq hx0;simp only[k0,AMO,ARK]at q2;obtain⟨rfl,rfl⟩:=q2;have ij:=ih (h.put o.dst q1) hx1;have uB:(σ.put o.dst x').bx=σ.bx:=by cases o.dst<;>rfl
      rw[uB]at ij;exact lJ ho (Region.noSelect_spec ACv) hP fuel listed _ a w bm hi (.inl ⟨hw,q3⟩) ij
     ·have ij:=ih (h.put o.dst nw) hx
      have uB:(σ.put o.dst (.Nr [])).bx=σ.bx:=by cases o.dst<;>rfl
      rw[uB]at ij;exact lJ ho (Region.noSelect_spec ACv) hP fuel listed _ a w bm hi (.inr ⟨hw,rfl⟩) ij
   |none=>
    simp only[hf]at e1;have fj:=lf e1;refine⟨fun h0=>(by simp_all),fun i hi=> ?_⟩;rw[hr]at hi;have hx:=fj i hi;cases ho:ops[i]? with
    |none=>
     simp_all
    |some o=>
     simp only[ho]at hx;have htc:(Kd C.Γ σ o.op).all (fun b=> !hint.contains b)=true:=by
      have:=hx [];simp_all
     simp only[htc,ARj]at hx;have htn:∀b∈Kd C.Γ σ o.op,b∉hint:=fun b hb hh=>by
      simp_all
     unfold wpOp;simp only[ho];rcases rE (I:=List Bool) (kn:=fun ω σ' =>UQ C hint ops kn fuel (listed.setIfInBounds i true) ω σ') ho h.rel hx with⟨hw,hx⟩|⟨hw,hx⟩
     ·rw[AME hw]
      obtain⟨x,σ',hx0,hx1⟩:=kD hx;refine .inl (yV hT hΓ h.rel hx0 fun v w' E' x' σ'' g1 g2 g3 g4 g5=> ?_);simp only[k0,AMO,ARK]at g5;obtain⟨rfl,rfl⟩:=g5;have uB:(σ''.put o.dst x').bx=σ''.bx:=by cases o.dst<;>rfl
      have AUq:=Zb (hx1 []);rw[uB]at AUq;obtain⟨k1,k2⟩:=ABu g3 htn AUq;have ij:=ih ((h.next g1 g3 g4).put o.dst g2) hx1;grind
     ·rw[AMG (by simp[hw])]
      have ij:=ih (h.put o.dst nw) hx;have uB:(σ.put o.dst (.Nr [])).bx=σ.bx:=by cases o.dst<;>rfl
      grind[pC.refl]
end Go.Fw
end
section
namespace Go.Fw
theorem Rel.heap{E:Env}{σ:St}{a:Act}{w w':World}(h:Rel E σ a w)(hw:w'.heap=w.heap):Rel E σ a w':=by
 have keep:TF E w σ.bx E w' σ.bx:=by
  refine⟨AP3 _,fun _ _=>rfl,fun _ h=>h,fun _ h=>h,h.bx.st,fun _ _=>by rw[hw],fun b d r rows hb e=>⟨d,rows,e,fun p hp q ys hg=>⟨hp,⟨ys,hg,rfl⟩,fun hh he=> ?_⟩⟩⟩;obtain⟨Fs,⟨f1,f2⟩,_⟩:=h.bx;have hF:Fs[b]? =some (Fs[b]'(by omega)):=AMJ _;exact sK (f2 b _ _ e hF).2 (fun _ _=>by rw[hw]) (fun _ _=>by rw[hw]) hp hg he
 exact⟨h.N8,h.tm.imp fun _ _ hx=>PC keep hx,h.bx.turn (fun _ _ hv=>GU keep hv) (fun _ h=>h) (fun _ _=>rfl) (fun _ _=>rfl) (fun _ _ _=>by rw[hw]) fun F hF=>⟨hF.nodup,hF.free,fun c hc=>by rw[hw];exact hF.lt c hc,hF.st,fun c hc=>by rw[hw];exact hF.cf c hc⟩⟩
theorem Ok.drawn{E0 E:Env}{w0 w:World}{N nb:Nat}{σ:St}{a:Act}(h:Ok E0 w0 N nb E σ a w)(n:Nat):Ok E0 w0 N nb E σ a { w with drawn:=n }:=
 ⟨h.rel.heap rfl,⟨h.base.T,h.base.S,h.base.Tof,h.base.y_,h.base.heap,h.base.os,h.base.tape,h.base.output,h.base.size⟩,h.tm,h.qO,h.ids⟩
theorem kJ{Y I:Type}[Nonempty I]{P:Program}{C:Zo}(hT:Ei P C.T)(hΓ:gV P C.Γ){E0:Env}{w0:World}{N nb:Nat}{all:Array Oper}{kn:I→St→Option Y}{y:Y}{Q:Exit→Act→World→Prop}
  (hk:∀E σ a w,Ok E0 w0 N nb E σ a w→(∀ω,kn ω σ=some y)→Q .normal a w):∀{l:List Oper} {E:Env} {σ:St} {a:Act} {w:World},Ok E0 w0 N nb E σ a w→(∀ω,sY C all l (kn ω) σ=some y)→wpList P all Q l a w
 |[],E,σ,a,w,h,e=>hk E σ a w h e
 |o::rest,E,σ,a,w,h,e=>by
  unfold wpList;rcases rF (kn:=fun ω σ=>sY C all rest (kn ω) σ) h.rel e with⟨hw,hx⟩|⟨hw,hx⟩
  ·rw[AME hw]
   obtain⟨x,σ',hx0,hx1⟩:=kD hx;refine .inl (yV hT hΓ h.rel hx0 fun v w' E' x' σ'' g1 g2 g3 g4 g5=> ?_);simp only[k0,AMO,ARK]at g5;obtain⟨rfl,rfl⟩:=g5;exact kJ hT hΓ hk ((h.next g1 g3 g4).put o.dst g2) hx1
  ·rw[AMG (by simp[hw])]
   exact kJ hT hΓ hk (h.put o.dst nw) hx
def OU(P:Program)(body:Code)(Q:Exit→Act→World→Prop)(a:Act)(w:World):Prop:=
 ∀(b:Frame) (k:List Item) (cs:List Frame),∃e a' w',Q e a' w'∧Arrives P (lone (b.at a (.code body:: .inLoop body::k)) cs w) b k cs e a' w'
theorem OU.wp{P:Program}{body:Code}{Q:Exit→Act→World→Prop}{a:Act}{w:World}(h:OU P body Q a w):(Code.loop body).wp P Q a w:=fun b k cs=>by
 obtain⟨e,a',w',hq,cT⟩:=h b k cs;exact⟨e,a',w',hq,.of_steps (.one step_loop) cT⟩
theorem OU.AFY{P:Program}{body:Code}{Q:Exit→Act→World→Prop}{a:Act}{w:World}(h:body.wp P (Exit.then (OU P body Q) Q) a w):OU P body Q a w:=fun b k cs=>by
 obtain⟨e,a₁,w₁,hq,cT⟩:=h b (.inLoop body::k) cs;cases e with
 |normal=>
  obtain⟨e₂,a₂,w₂,hq₂,harr₂⟩:=hq b k cs;exact⟨e₂,a₂,w₂,hq₂,.of_steps (Steps.trans cT (.one step_inLoop)) harr₂⟩
 |exit id=>exact⟨_,a₁,w₁,hq,.pass (x:= .inLoop body) rfl (fun _ _=> .inl (by simp)) cT⟩
 |goto l=>exact⟨_,a₁,w₁,hq,.pass (x:= .inLoop body) rfl (fun _ _=> .inl (by simp)) cT⟩
 |ret=>exact⟨_,a₁,w₁,hq,.pass (x:= .inLoop body) rfl (fun _ _=> .inl (by simp)) cT⟩
 |panic ch=>exact⟨_,a₁,w₁,hq,.pass (x:= .inLoop body) rfl (fun _ _=> .inl (by simp)) cT⟩
 |outgrown=>exact⟨_,a₁,w₁,hq,.pass (x:= .inLoop body) rfl (fun _ _=> .inl (by simp)) cT⟩
abbrev lA:=Exit→Act→World→Prop
def At(P:Program):Code→lA→Nat→Code→lA→Prop
 | .seq a b,Q,ℓ,body,Q' =>At P a (Exit.then (b.wp P Q) Q) ℓ body Q'∨At P b Q ℓ body Q'
 | .cond _ a b,Q,ℓ,body,Q' =>At P a Q ℓ body Q'∨At P b Q ℓ body Q'
 | .block id c,Q,ℓ,body,Q' =>At P c (Exit.inBlock id Q) ℓ body Q'
 | .loop c,Q,ℓ,body,Q' =>(first c= ℓ ∧body=c∧Q' =Q)∨At P c (Exit.then (OU P c Q) Q) ℓ body Q'
 |_,_,_,_,_=>False
def dd(Q:lA):Prop:= ∀c a w,¬Q (.panic c) a w
theorem dd.then{Q:lA}(h:dd Q)(n:Act→World→Prop):dd (Exit.then n Q):=fun c a w hq=>h c a w hq
theorem dd.inBlock{Q:lA}(h:dd Q)(id:Nat):dd (Exit.inBlock id Q):=fun c a w hq=>h c a w hq
section
variable{Y:Type} {P:Program} {C:Zo} (hT:Ei P C.T) (hΓ:gV P C.Γ) (hm:P.follows .mixedOrders=true) {E0:Env} {w0:World} {N nb:Nat} {y:Y} {J:Nat→St→Option Y}
structure Good (E0:Env) (w0:World) (N nb:Nat) (y:Y) (kn:KN Y) (kx:Nat→KN Y) (kr:KN Y) (Q:lA):Prop where
 n:∀E σ a w,Ok E0 w0 N nb E σ a w→(∀ω,kn ω σ=some y)→Q .normal a w
 x:∀id E σ a w,Ok E0 w0 N nb E σ a w→(∀ω,kx id ω σ=some y)→Q (.exit id) a w
 r:∀E σ a w,Ok E0 w0 N nb E σ a w→(∀ω,kr ω σ=some y)→Q .ret a w
def JOk(P:Program)(E0:Env)(w0:World)(N nb:Nat)(y:Y)(J:Nat→St→Option Y)(cd:Code)(Q:lA):Prop:=
 ∀ ℓ body Q',At P cd Q ℓ body Q'→ ∀E σ a w,Ok E0 w0 N nb E σ a w→J ℓ σ=some y→OU P body Q' a w
include hT hΓ hm in
theorem xM:∀{cd:Code} {kn:KN Y} {kx:Nat→KN Y} {kr:KN Y} {Q:lA} {E:Env} {σ:St} {a:Act} {w:World},dd Q→Good E0 w0 N nb y kn kx kr Q→JOk P E0 w0 N nb y J cd Q→Ok E0 w0 N nb E σ a w→
  (∀ω,run C J cd kn kx kr ω σ=some y)→cd.wp P Q a w:=by
 intro cd
 induction cd with
 |skip=>intro kn kx kr Q E σ a w hp hg hj h e;exact wp_skip (hg.n E σ a w h e)
 |region id ops draw=>
  intro kn kx kr Q E σ a w hp hg hj h e;simp only[run]at e;cases draw with
  |false=>
   simp only[AMZ,AQb]at e;exact wp_region_list (kJ hT hΓ hg.n h e)
  |true=>
   simp only[ARj]at e;have hs:Region.noSelect ops=true:=by
    have:=e [];split at this
    ·rename_i hh;exact hh
    ·cases this
   simp only[hs,ARj]at e;exact wp_region_any hm (rH _ _ _ _ _ (si hT hΓ hs hp hg.n _ (h.drawn _) e))
 |seq x z ihx ihz=>
  intro kn kx kr Q E σ a w hp hg hj h e;simp only[run]at e;refine wp_seq (ihx (hp.then _) ⟨fun E σ a w h e=>ihz hp hg (fun ℓ body Q' Rh=>hj ℓ body Q' (.inr Rh)) h e,fun id E σ a w h e=>hg.x id E σ a w h e,hg.r⟩ (fun ℓ body Q' Rh=>hj ℓ body Q' (.inl Rh)) h e)
 |cond c x z ihx ihz=>
  intro kn kx kr Q E σ a w hp hg hj h e;cases c with
  |tmp t=>
   simp only[run]at e;have e0:=e [];split at e0
   ·rename_i b hb
    simp only[hb]at e;obtain⟨v,hv,hx⟩:=h.rel.tmp hb;have hvb:=Rj (E:=E) (w:=w) (vw:=σ.bx) hx;subst hvb;have hev:a.eval (.tmp t)= .bool b:=by simp[Act.eval,AVE,hv]
    have hk:=vO hb;cases b with
    |true=>
     simp only[AOK,tt,hk]at e;exact wp_cond_true hev (ihx hp hg (fun ℓ body Q' Rh=>hj ℓ body Q' (.inl Rh)) h e)
    |false=>
     simp only[AMW,ff,hk]at e;exact wp_cond_false hev (ihz hp hg (fun ℓ body Q' Rh=>hj ℓ body Q' (.inr Rh)) h e)
   ·cases e0
  |_=>cases e []
 |block id c ih=>
  intro kn kx kr Q E σ a w hp hg hj h e;simp only[run]at e;refine wp_block (ih (hp.inBlock id) ⟨hg.n,fun j E σ a w h e=> ?_,hg.r⟩ (fun ℓ body Q' Rh=>hj ℓ body Q' Rh) h e);simp only[Exit.inBlock];split
  ·rename_i hid
   simp only[hid,ARj]at e;exact hg.n E σ a w h e
  ·rename_i hid
   simp only[hid,AQb]at e;exact hg.x j E σ a w h e
 |loop body ih=>
  intro kn kx kr Q E σ a w hp hg hj h e;simp only[run]at e;exact OU.wp (hj (first body) body Q (.inl ⟨rfl,rfl,rfl⟩) E σ a w h (e []))
 |exit id=>intro kn kx kr Q E σ a w hp hg hj h e;exact wp_exit (hg.x id E σ a w h e)
 |ret=>intro kn kx kr Q E σ a w hp hg hj h e;exact wp_ret (hg.r E σ a w h e)
 |_=>intro kn kx kr Q E σ a w hp hg hj h e;cases e []
end
end Go.Fw
end
section
namespace Go.Fw
def labels:Code→List Nat
 | .seq a b=>labels a++labels b
 | .cond _ a b=>labels a++labels b
 | .block _ c=>labels c
 | .loop c=>first c::labels c
 |_=>[]
theorem At.label{P:Program}:∀{cd:Code} {Q:lA} {ℓ :Nat} {body:Code} {Q':lA},At P cd Q ℓ body Q'→ ℓ ∈labels cd
 | .seq a b,Q,ℓ,body,Q',h=>by
  simp only[labels,APr];exact h.imp At.label At.label
 | .cond _ a b,Q,ℓ,body,Q',h=>by
  simp only[labels,APr];exact h.imp At.label At.label
 | .block _ c,Q,ℓ,body,Q',h=>At.label (cd:=c) h
 | .loop c,Q,ℓ,body,Q',h=>by
  simp only[labels,AQw];exact h.imp (fun h=>h.1.symm) At.label
section
variable{Y:Type} {P:Program} {C:Zo} (hT:Ei P C.T) (hΓ:gV P C.Γ) (hm:P.follows .mixedOrders=true) {E0:Env} {w0:World} {N nb:Nat} {y:Y} {J:Nat→St→Option Y}
theorem RL{ℓ :Nat}:∀{cd:Code} {kn:KN Y} {kx:Nat→KN Y} {kr:KN Y},ℓ ∉labels cd→find C J ℓ cd kn kx kr=none
 | .seq a b,kn,kx,kr,h=>by
  simp only[labels,APr,not_or]at h;simp only[find];rw[RL h.1];exact RL h.2
 | .cond _ a b,kn,kx,kr,h=>by
  simp only[labels,APr,not_or]at h;simp only[find];rw[RL h.1];exact RL h.2
 | .block _ c,kn,kx,kr,h=>by simp only[find];exact RL (cd:=c) h
 | .loop c,kn,kx,kr,h=>by
  simp only[labels,AQw,not_or]at h;simp only[find];rw[AMG (fun e=>h.1 e.symm)];exact RL h.2
 | .skip,_,_,_,_=>rfl
 | .region _ _ _,_,_,_,_=>rfl
 | .rangeFunc _ _ _ _,_,_,_,_=>rfl
 | .exit _,_,_,_,_=>rfl
 | .scope _,_,_,_,_=>rfl
 | .label _,_,_,_,_=>rfl
 | .goto _,_,_,_,_=>rfl
 | .ret,_,_,_,_=>rfl
 | .refuse _,_,_,_,_=>rfl
include hT hΓ hm in
theorem AJH{ℓ :Nat}:∀{cd:Code} {kn:KN Y} {kx:Nat→KN Y} {kr:KN Y} {Q:lA} {body:Code} {Q':lA},(labels cd).Nodup→dd Q→Good E0 w0 N nb y kn kx kr Q→JOk P E0 w0 N nb y J cd Q→At P cd Q ℓ body Q'→
  ∃kn' kx' kr',find C J ℓ cd kn kx kr=some (fun ω σ=>run C J body (fun _ σ=>J ℓ σ) kx' kr' ω σ)∧Good E0 w0 N nb y kn' kx' kr' Q'∧dd Q'∧JOk P E0 w0 N nb y J body (Exit.then (OU P body Q') Q'):=by
 intro cd
 induction cd with
 |seq a b iha ihb=>
  intro kn kx kr Q body Q' hn hp hg hj Rh;simp only[labels,AP2]at hn;obtain⟨n1,n2,n3⟩:=hn;have hja:JOk P E0 w0 N nb y J a (Exit.then (b.wp P Q) Q):=fun ℓ body Q' Rh=>hj ℓ body Q' (.inl Rh)
  have hjb:JOk P E0 w0 N nb y J b Q:=fun ℓ body Q' Rh=>hj ℓ body Q' (.inr Rh)
  simp only[find];rcases Rh with Rh|Rh
  ·obtain⟨kn',kx',kr',h1,h2⟩:=iha n1 (hp.then _) (kn:=fun ω σ=>run C J b kn kx kr ω σ) (kx:=kx) (kr:=kr)
    ⟨fun E σ a w h e=>xM hT hΓ hm hp hg hjb h e,fun id E σ a w h e=>hg.x id E σ a w h e,hg.r⟩ hja Rh
   exact⟨kn',kx',kr',by rw[h1],h2⟩
  ·have: ℓ ∉labels a:=fun h=>n3 ℓ h ℓ Rh.label rfl
   rw[RL this];exact ihb n2 hp hg hjb Rh
 |cond c a b iha ihb=>
  intro kn kx kr Q body Q' hn hp hg hj Rh;simp only[labels,AP2]at hn;obtain⟨n1,n2,n3⟩:=hn;simp only[find];rcases Rh with Rh|Rh
  ·obtain⟨kn',kx',kr',h1,h2⟩:=iha n1 hp hg (fun ℓ body Q' Rh=>hj ℓ body Q' (.inl Rh)) Rh
   exact⟨kn',kx',kr',by rw[h1],h2⟩
  ·have: ℓ ∉labels a:=fun h=>n3 ℓ h ℓ Rh.label rfl
   rw[RL this];exact ihb n2 hp hg (fun ℓ body Q' Rh=>hj ℓ body Q' (.inr Rh)) Rh
 |block id c ih=>
  intro kn kx kr Q body Q' hn hp hg hj Rh;simp only[find];refine ih hn (hp.inBlock id) ⟨hg.n,fun j E σ a w h e=> ?_,hg.r⟩ (fun ℓ body Q' Rh=>hj ℓ body Q' Rh) Rh;simp only[Exit.inBlock];split
  ·rename_i hid
   simp only[hid,ARj]at e;exact hg.n E σ a w h e
  ·rename_i hid
   simp only[hid,AQb]at e;exact hg.x j E σ a w h e
 |loop c ih=>
  intro kn kx kr Q body Q' hn hp hg hj Rh;simp only[labels,AU_]at hn;have hj':JOk P E0 w0 N nb y J c (Exit.then (OU P c Q) Q):=fun ℓ body Q' Rh=>hj ℓ body Q' (.inr Rh)
  simp only[find];by_cases hl:first c= ℓ
  ·rw[AME hl]
   rcases Rh with⟨_,rfl,rfl⟩|Rh
   ·exact⟨kn,kx,kr,rfl,hg,hp,hj'⟩
   ·exact absurd (hl▸Rh.label) hn.1
  ·rw[AMG hl]
   rcases Rh with⟨h,_⟩|Rh
   ·exact absurd h hl
   ·exact ih hn.2 (hp.then _) ⟨fun E σ a w h e=>hj (first c) c Q (.inl ⟨rfl,rfl,rfl⟩) E σ a w h (e []),fun id E σ a w h e=>hg.x id E σ a w h e,hg.r⟩ hj' Rh
 |_=>intro kn kx kr Q body Q' hn hp hg hj Rh;exact Rh.elim
end
theorem g_{E:Env}{w:World}{vw:List Bx}:∀{l:List (Nat×XP)} {x:G8.V l} {vals:List Value} {tm:List XV},OS E w vw id l x vals→CX (XR E w vw) tm vals→CX (XR E w vw) (G8.mk id l x tm) vals
 |[],_,_,_,_,h=>h
 |(i,p)::l,x,vals,tm,hs,h=>by
  obtain⟨⟨v,hv,hx⟩,hs⟩:=hs;simp only[G8.mk];refine g_ hs ?_
  have:=CX.set (i:=i) h hx;have e:vals.set i v=vals:=by
   apply ATl;grind
  simp_all
theorem CX.undef{E:Env}{w:World}{vw:List Bx}:∀{vals:List Value} {n:Nat},n=vals.length→CX (XR E w vw) (List.replicate n (.c .undef)) vals
 |[],n,h=>by subst h;trivial
 |v::vals,n,h=>by
  subst h;simp only[AN0,List.replicate_succ];exact⟨trivial,CX.undef rfl⟩
theorem tv.shared{E E1:Env}{w:World}{bx:List Bx}{m:Pm}{s:BE}{x:s.V}{vals:List Value}(h:tv E w bx m s x vals E1)(hb:C7 E w bx bx []):
  ∃E2,E2.ID=E1.ID∧E2.IE=E1.IE∧dA E w E2 w∧C7 E2 w (J1.mk id s.G3 x.2) (J1.mk id s.G3 x.2) []∧OS E2 w (J1.mk id s.G3 x.2) id s.EM x.1 vals:=by
 obtain⟨Fk,k1,k2,k3,k4⟩:=h.rest
 let E2:Env:={ E1 with S:=fun c=>E1.S c∨c∈Fk.flatten }
 have st1:=h.boxes.st;have keep:TF E1 w (J1.mk id s.G3 x.2) E2 w (J1.mk id s.G3 x.2):=
  ⟨AP3 _,fun _ _=>rfl,fun _ h=>h,fun _ h=> .inl h,st1,fun _ _=>rfl,fun b d r rows _ e=>⟨d,rows,e,fun p hp q ys hg=>⟨hp,⟨ys,hg,rfl⟩,fun _ h=>h⟩⟩⟩
 refine⟨E2,rfl,rfl,⟨h.T,fun c hc=> .inl (h.S c hc),fun c hc=> ?_,fun c hc=> ?_,fun _ _=>rfl,rfl,rfl,rfl,AP3 _⟩,?_,?_⟩
 ·grind
 ·rcases hc with hc|hc
  ·exact h.y_ c hc
  grind
 ·refine h.boxes.turn (E':=E2) (w':=w) (fun _ _ hv=>GU keep hv) (fun _ h=> .inl h) (fun _ _=>rfl) (fun _ _=>rfl) (fun _ _ _=>rfl) fun F hF=>⟨hF.nodup,hF.free,hF.lt,fun c hc=>hc.elim (hF.st c) fun h=>(k3 c h).2.2.2,hF.cf⟩
 ·have:∀{l:List (Nat×XP)} {z:G8.V l},OS E1 w (J1.mk id s.G3 x.2) id l z vals→OS E2 w (J1.mk id s.G3 x.2) id l z vals:=by
   intro l
   induction l with
   |nil=>intro z h;trivial
   |cons q l ih=>
    obtain⟨i,p⟩:=q;intro z h;obtain⟨⟨v,hv,hx⟩,hs⟩:=h;exact⟨⟨v,hv,PC keep hx⟩,ih hs⟩
  exact this h.EM
theorem gI:∀{l:List BP} {i n:Nat},(Ti i n l).length=l.length
 |[],_,_=>rfl
 |_::l,i,n=>by simp[Ti,gI (l:=l)]
theorem fa:∀{l:List BP} {i n k b:Nat},(Ti i n l)[k]? =some (some b)→b=i+k∧b<n∧l[k]?≠some .gone
 |[],i,n,k,b,h=>by simp[Ti]at h
 |p::l,i,n,0,b,h=>by
  grind[Ti,List.getElem?_cons_zero,Option.some.injEq]
 |p::l,i,n,k+1,b,h=>by
  simp only[Ti,List.getElem?_cons_succ]at h;obtain⟨h1,h2,h3⟩:=fa h;grind
theorem gi:∀{l:List BP} {i n k:Nat} {p:BP},l[k]? =some p→p≠ .gone→i+k<n→(Ti i n l)[k]? =some (some (i+k))
 |q::l,i,n,0,p,h,hg,hn=>by
  simp at h;subst h;simp only[Ti,List.getElem?_cons_zero,AMO];simp_all
 |q::l,i,n,k+1,p,h,hg,hn=>by
  simp only[Ti,List.getElem?_cons_succ];rw[gi (l:=l) (i:=i+1) (k:=k) (by simp_all) hg (by omega)];grind
 |[],_,_,_,_,h,_,_=>by simp at h
theorem pS{l:List BP}{n:Nat}:oC (Ti 0 n l):=fun i j b h k=>by
 have:=(fa h).1;have:=(fa k).1;omega
end Go.Fw
end
section
namespace Go.Fw
structure AUj (P:Program) (f:Nat) (fn:Func) (c:QB):Prop where
 at_:P.funcs[f]? =some fn
 call:∀args w,(callFunc f args).run P w= .ok (.enter f args) w
 con:c.ok=true
 tmps:c.ins.EM.length≤fn.ntmps
 labels:∀code,fn.body=some code→(labels code).Nodup
section
variable{P:Program} {C:Zo} (hT:Ei P C.T) {E:Env} {σ:St} {a:Act} {w:World}
include hT in
theorem ADM(h:Rel E σ a w):
  ∀{rs:List ResultVar} {xs:List XV},rs.mapM (ACW C.T σ)=some xs→ ∃vs,(∀f:ResultVar→Sem Value,(∀u,f (.tmp u)=pure (a.tmps.getD u undef))→(∀b t,f (.cell b t)=(do loadVar t (←asAddr (a.tmps.getD b undef))))→
   (rs.mapM f).run P w= .ok vs w)∧CX (XR E w σ.bx) xs vs:=by
 intro rs
 induction rs with
 |nil=>
  intro xs e;have hx:xs=[]:=by simpa using e.symm
  subst hx;exact⟨[],fun f _ _=>by simp,trivial⟩
 |cons r rs ih=>
  intro xs e;rw[AWc]at e;simp only[Option.bind_eq_bind,AMi,Option.pure_def,AMO]at e;obtain⟨x,e1,ys,e2,rfl⟩:=e;obtain⟨vs,h1,h2⟩:=ih e2;have one:∃v,(∀f:ResultVar→Sem Value,(∀u,f (.tmp u)=pure (a.tmps.getD u undef))→(∀b t,f (.cell b t)=(do loadVar t (←asAddr (a.tmps.getD b undef))))→(f r).run P w= .ok v w)∧XR E w σ.bx x v:=by
   cases r with
   |tmp t=>
    simp only[ACW]at e1;obtain⟨v,hv,hx⟩:=h.tmp e1;refine⟨v,fun f hf hc=> ?_,hx⟩;rw[hf];simp[AVE,hv]
   |cell b t=>
    simp only[ACW]at e1;split at e1
    case h_2=>cases e1
    rename_i z hz;obtain⟨v,hv,hx⟩:=h.tmp hz;obtain⟨Fs,hB,hS⟩:=h.bx;cases z with
    |agg l=>simp[lI]at e1
    |Nr l=>simp[lI]at e1
    |c ad=>
     obtain⟨bb,oo,u,cell,hp,_,q2,q3⟩:=rX hT hB hS.st e1 hx;refine⟨u,fun f hf hc=> ?_,q2⟩;have hgd:a.tmps.getD b undef=v:=by simp[AVE,hv]
     have:=q3 w rfl;rw[hc,hgd,hp];rw[hp]at this;simpa[Instr.loadAt,Instr.sureAddr,asAddr]using this
  obtain⟨v,g1,g2⟩:=one;refine⟨v::vs,fun f hf hc=> ?_,g2,h2⟩;rw[AWc];simp[g1 f hf hc,h1 f hf hc]
theorem gS{vw:List Bx}:∀{l:List XV} {q:List (AV ⊕ List AV)} {vs:List Value},vX l=some q→CX (XR E w vw) l vs→CX (TR E w vw) q vs
 |[],q,[],e,_=>by
  simp only[vX,AMO]at e;subst e;trivial
 |[],_,_::_,_,h=>h.elim
 | .c x::l,q,v::vs,e,h=>by
  simp only[vX,AMU]at e;obtain⟨r,e1,rfl⟩:=e;exact⟨h.1,gS e1 h.2⟩
 | .agg x::l,q,v::vs,e,h=>by
  simp only[vX,AMU]at e;obtain⟨r,e1,rfl⟩:=e;exact⟨h.1,gS e1 h.2⟩
 | .Nr _::_,_,_,e,_=>by simp[vX]at e
 | .c _::_,_,[],_,h=>h.elim
 | .agg _::_,_,[],_,h=>h.elim
include hT in
theorem qk(h:Rel E σ a w){fn:Func}{x:XV}(e:nr C.T σ fn.results.toList=some x):∃v,(results fn a.tmps).run P w= .ok v w∧XR E w σ.bx x v:=by
 unfold nr at e;have key:∀xs,fn.results.toList.mapM (ACW C.T σ)=some xs→ ∃vs:List Value,(results fn a.tmps).run P w= .ok (if h:vs.toArray.size=1 then vs.toArray[0]else .tuple vs.toArray) w∧CX (XR E w σ.bx) xs vs:=by
  intro xs hx;obtain⟨vs,h1,h2⟩:=ADM (P:=P) hT h hx;refine⟨vs,?_,h2⟩;unfold results;rw[Array.mapM_eq_mapM_toList];simp only[Sem.run_bind,Sem.run_map];rw[h1 _ (fun _=>rfl) (fun _ _=>rfl)];simp only[Result.andThen_ok,Sem.run_pure]
 split at e
 ·rename_i z hz
  cases e;obtain⟨vs,h1,h2⟩:=key _ hz
  match vs,h2 with
  |[v],h2=>exact⟨v,by simpa using h1,h2.1⟩
  |v::_::_,h2=>exact h2.2.elim
  |[],h2=>exact h2.elim
 ·rename_i l hl hz
  simp only[AMU]at e;obtain⟨q,e1,rfl⟩:=e;obtain⟨vs,h1,h2⟩:=key _ hz;have ax: ¬vs.toArray.size=1:=fun hs=>by
   have:=CX.len h2
   match l,this with
   |[z],_=>exact hl z rfl
   |[],t=>simp at t hs;omega
   |_::_::_,t=>simp at t hs;omega
  rw[dif_neg ax]at h1;exact⟨_,h1,vs.toArray,rfl,by simpa using gS e1 h2⟩
 ·cases e
end
theorem fG{E:Env}{w:World}{vw:List Bx}{more:List Value}:∀{l:List (Nat×XP)} {x:G8.V l} {vals:List Value},OS E w vw id l x vals→OS E w vw id l x (vals++more)
 |[],_,_,_=>trivial
 |(i,p)::l,x,vals,h=>by
  obtain⟨⟨v,hv,hx⟩,hs⟩:=h;exact⟨⟨v,by grind,hx⟩,fG hs⟩
def zN(C:Zo)(c:QB)(fn:Func)(code:Code)(J:Nat→Nat→St→Option c.outs.V):Prop:=
 ∀ ℓ,ℓ ∈labels code→ ∃(s:BE) (F:Nat→s.V→Option c.outs.V),(∀n,J n ℓ =jump c.ins.G3.length s (F n))∧(∀v,F 0 v=none)∧
  ∀n v y,F (n+1) v=some y→ ∀ω,Hf C c fn (J n) ℓ ω (s.st fn.ntmps v)=some y
section
variable{P:Program} {C:Zo} (hT:Ei P C.T) (hΓ:gV P C.Γ) (hm:P.follows .mixedOrders=true) {fn:Func} {c:QB}
def AMe(c:QB)(E0:Env)(w0:World)(u:c.outs.V)(e:Ending)(w':World):Prop:=
 ∃x E',e= .returned x∧dA E0 w0 E' w'∧C7 E' w' (J1.mk id c.outs.G3 u.2) (J1.mk id c.outs.G3 u.2) []∧
  OS E' w' (J1.mk id c.outs.G3 u.2) id c.outs.EM u.1 [x]∧ ∀i,i<c.ins.G3.length→alive c.outs.G3 i=true→E'.ID i=E0.ID i∧E'.IE i=E0.IE i
theorem Ok.opens{E0 E:Env}{w0 w:World}{N nb:Nat}{σ:St}{a:Act}(h:Ok E0 w0 N nb E σ a w)(s:BE):∃E',Ok E0 w0 N nb E' { σ with bx:=s.opens σ.bx } a w∧
  (∀(i:Nat) d r,s.G3[i]? =some (.sl d r)→E'.IE (σ.bx.length+i)= .slice none 0 0)∧(∀x v,XR E w σ.bx x v→XR E' w (s.opens σ.bx) x v):=by
 obtain⟨E',h1,h2,h3,h4⟩:=rV h.rel s;exact⟨E',h.next h1 h2 rfl,h3,h4⟩
theorem ADv{E E':Env}{w:World}{vw:List Bx}{b:Nat}(h:Le E E')(st:∀c,E.S c→E.T c):TF E w vw E' w (vw.set b .dead):=by
 refine⟨by simp,fun b _=>by rw[h.ID],h.T,h.S,st,fun _ _=>rfl,fun c d r rows _ e=> ?_⟩;by_cases hc:c=b
 ·simp_all
 ·rw[ARd (fun e=>hc e.symm)]at e
  exact⟨d,rows,e,fun p hp q ys hg=>⟨hp,⟨ys,hg,rfl⟩,fun h' hh=>by rw[h.IE];omega⟩⟩
theorem AHS{E:Env}{σ:St}{a:Act}{w:World}(h:Rel E σ a w)(b:Nat):∃E',Rel E' (σ.qH b) a w∧Le E E':=by
 unfold St.qH;split
 case h_2=>grind[Le.refl]
 rename_i d r rows hb;obtain⟨F,hF,hB⟩:=h.bx.take hb;have X6:C7 E w σ.bx (σ.bx.set b .dead) ([]++F++[]):=by simp_all
 obtain⟨hle,hB3⟩:=X6.share;have hk:=ADv (vw:=σ.bx) (b:=b) (w:=w) hle h.bx.st;have hk2:TF E w σ.bx { E with S:=fun c=>E.S c∨c∈F,T:=fun c=>E.T c∨c∈F } w ((σ.bx.set b .dead).map (Bx.qH b r rows)):=by
  refine⟨by simp,hk.ID,hk.T,hk.S,hk.st,hk.heap,fun c d' r' Cz hc e=> ?_⟩;rw[ARa,AMU]at e;obtain⟨B,e,eB⟩:=e;cases B with
  |mem cs=>cases eB
  |dead=>cases eB
  |sl d0 r0 Ro=>
   cases eB;grind
 have hv:∀x v,VR E w σ.bx x v→VR { E with S:=fun c=>E.S c∨c∈F,T:=fun c=>E.T c∨c∈F } w ((σ.bx.set b .dead).map (Bx.qH b r rows)) (x.qH b r rows) v:=fun x v hx=>by
  unfold AV.qH;split
  ·rename_i c
   split
   ·rename_i hc
    subst hc;obtain⟨h1,h2⟩:=hx;rw[hb]at h2;have hv:=h2.2.2;rw[DB]at hv;simp only[AMO]at hv;have:=Xr hF.2;rw[hv]at this;exact F5 (fun c hc=>hc) (fun _ _=>rfl) this
   grind[GU]
  grind[GU]
 refine⟨_,⟨h.N8,?_,?_⟩,hle⟩
 ·refine CX.MA _ (fun x v hx=> ?_) h.tm
  unfold XV.qH;split
  ·exact hv _ _ hx
  grind[PC]
 ·obtain⟨Fs,⟨hl,h1⟩,h2⟩:=hB
  have h2':Sep E w (F++Fs.flatten):=h2.perm (by grind);refine⟨Fs,⟨by simp_all,fun k B G T3 hG=> ?_⟩,?_⟩
  ·rw[ARa,AMU]at T3
   obtain⟨B0,e,rfl⟩:=T3;have h3:=h1 k B0 G e hG;cases B0 with
   |mem cs=>
    obtain⟨rfl,arr,ty,fr,a1,a2,a3⟩:=h3;exact⟨rfl,arr,ty,fr,a1,a2,CX.MA _ (fun x v hx=>hv x v hx) a3⟩
   |sl d0 r0 Ro=>exact⟨h3.1,EU hle.S (fun _ _=>rfl) (fun _ _=>rfl) h3.2⟩
   |dead=>exact h3
  ·rw[AN8]
   have st:=h.bx.st;refine⟨(AP2.1 h2'.nodup).2.1,fun c hc ht=> ?_,fun c hc=>h2'.lt c (by simp_all),fun c hc=>hc.imp (st c) id,fun c hc=>hc.elim (h2'.cf c) fun h' =>h2'.lt c (by simp[h'])⟩;rcases ht with ht|ht
   ·exact h2'.free c (APr.2 (.inr hc)) ht
   ·exact(AP2.1 h2'.nodup).2.2 c ht c hc rfl
theorem ADO{σ:St}{b i:Nat}(h:σ.bx[i]? =some .dead):(σ.qH b).bx[i]? =some .dead:=by
 unfold St.qH;split
 ·simp only[ARa,AVK]
  split
  ·simp_all
  ·rw[h];rfl
 omega
theorem zA{σ:St}{b:Nat}:(σ.qH b).bx.length=σ.bx.length∧(σ.qH b).tm.length=σ.tm.length:=by
 grind[St.qH]
theorem Ok.qH{E0 E:Env}{w0 w:World}{N nb:Nat}{σ:St}{a:Act}(h:Ok E0 w0 N nb E σ a w)(b:Nat):∃E',Ok E0 w0 N nb E' (σ.qH b) a w:=by
 obtain⟨E',h1,h2⟩:=AHS h.rel b;refine⟨E',⟨h1,h.base.trans (h2.base w),by rw[zA.2];exact h.tm,by rw[zA.1];exact h.qO,fun i hi hd=> ?_⟩⟩;rw[h2.ID,h2.IE];exact h.ids i hi fun e=>hd (ADO e)
theorem Ok.QC{E0:Env}{w0 w:World}{N nb:Nat}{a:Act}:∀(l:List AP) (xs:List AV) {E:Env} {σ:St},Ok E0 w0 N nb E σ a w→ ∃E',Ok E0 w0 N nb E' (QC l xs σ) a w:=by
 intro l xs E σ h
 induction l generalizing xs E σ with
 |nil=>grind[Fw.QC]
 |cons p l ih=>
  unfold Fw.QC;split
  ·rename_i heq
   cases heq;obtain⟨E',h'⟩:=h.qH _;exact ih _ h'
  ·rename_i heq
   cases heq;exact ih _ h
  grind
theorem Ok.AXr{E0:Env}{w0 w:World}{N nb:Nat}{a:Act}{bs:List BP}:∀(l:List (Nat×XP)) {E:Env} {σ:St},Ok E0 w0 N nb E σ a w→ ∃E',Ok E0 w0 N nb E' (QJ bs l σ) a w:=by
 intro l
 induction l with
 |nil=>intro E σ h;exact⟨E,h⟩
 |cons q l ih=>
  intro E σ h;unfold QJ;split
  ·simp_all
  ·rename_i e
   cases e;split
   ·obtain⟨E',h'⟩:=h.QC [_] [_]
    exact ih h'
   grind
  ·rename_i e
   cases e;split
   ·split
    ·obtain⟨E',h'⟩:=h.QC _ _
     exact ih h'
    grind
   grind
  grind
theorem sW{E:Env}{w:World}{vw:List Bx}{x:AV}{v:Value}(h:VR E w vw x v)(hx:x.rY=true):isSlice v=true:=by
 cases x with
 |ref b p=>exact h.1
 |win b p o n=>exact h.1
 |sl s r y=>
  simp only[VR,Rd]at h;obtain⟨a,cap,h,_⟩:=h;simp only[ARF,ARx]at h;rw[h];rfl
 |nil=>cases h;rfl
 |_=>cases hx
theorem xN{E:Env}{σ:St}{a:Act}{w:World}(h:Rel E σ a w)(b j:Nat):Rel E (σ.forget b j) a w∧σ.bx.length≤(σ.forget b j).bx.length∧(∀i:Nat,σ.bx[i]? =some Bx.dead→(σ.forget b j).bx[i]? =some Bx.dead)∧(σ.forget b j).tm=σ.tm:=by
 unfold St.forget;split
 case h_2=>simp_all
 rename_i cs hb;split
 case h_2=>simp_all
 rename_i x hx;split
 case isFalse=>simp_all
 rename_i hs;have hbl:=(AMX.1 hb).1;have hk:TF E w σ.bx E w (σ.bx.set b (.mem (cs.set j (.ref σ.bx.length [])))++[.dead]):=by
  refine⟨by simp,fun _ _=>rfl,fun _ h=>h,fun _ h=>h,h.bx.st,fun _ _=>rfl,fun c d r rows hc e=> ?_⟩;grind
 refine⟨⟨h.N8,h.tm.imp fun _ _ hx=>PC hk hx,?_⟩,by simp,fun i hi=> ?_,rfl⟩
 ·obtain⟨Fs,⟨hl,h1⟩,h2⟩:=h.bx
  refine⟨Fs++[[]],⟨by simp[hl],fun k B G hB hG=> ?_⟩,by simp_all⟩;by_cases hk2:k<σ.bx.length
  ·rw[AQS (by simp_all)]at hB
   rw[AQS (by omega)]at hG;by_cases hkb:b=k
   ·subst hkb
    rw[ARy hk2]at hB;cases hB;obtain⟨rfl,arr,ty,fr,a1,a2,a3⟩:=h1 b _ G hb hG;refine⟨rfl,arr,ty,fr,a1,a2,?_⟩;have a4:iy E w (σ.bx.set b (.mem (cs.set j (.ref σ.bx.length [])))++[.dead]) cs arr.toList:=a3.imp fun _ _ hv=>GU hk hv
    obtain⟨v,hv,hvr⟩:=a3.get hx;have Tk:arr.toList.set j v=arr.toList:=by
     apply ATl;grind
    rw[←Tk];refine CX.set a4 ⟨sW hvr hs,?_⟩;simp_all
   ·rw[ARd hkb]at hB
    have h3:=h1 k B G hB hG;cases B with
    |mem dL=>
     obtain⟨rfl,arr,ty,fr,a1,a2,a3⟩:=h3;exact⟨rfl,arr,ty,fr,a1,a2,a3.imp fun _ _ hv=>GU hk hv⟩
    |sl d0 r0 Ro=>exact h3
    |dead=>exact h3
  ·have hlen:=(AMX.1 hB).1
   simp only[AOq,ARh,AN0,APv]at hlen;have hkk:k=σ.bx.length:=by omega
   subst hkk;rw[AQm (by simp)]at hB;rw[AQm (by omega)]at hG;simp[hl]at hB hG;subst hB hG;rfl
 grind
theorem Ok.forget{E0 E:Env}{w0 w:World}{N nb:Nat}{σ:St}{a:Act}(h:Ok E0 w0 N nb E σ a w)(b j:Nat):Ok E0 w0 N nb E (σ.forget b j) a w:=by
 obtain⟨h1,h2,h3,h4⟩:=xN h.rel b j;exact⟨h1,h.base,by rw[h4];exact h.tm,ARV h.qO h2,fun i hi hd=>h.ids i hi fun e=>hd (h3 i e)⟩
theorem Ok.Xe{E0 E:Env}{w0 w:World}{N nb:Nat}{a:Act}{bs:List BP}{b:Nat}:∀(l:List AP) (j:Nat) {σ:St},Ok E0 w0 N nb E σ a w→Ok E0 w0 N nb E (Xe bs b j l σ) a w
 |[],_,_,h=>h
 |p::l,j,σ,h=>by
  simp only[Fw.Xe];refine Ok.Xe l (j+1) ?_
  split
  ·split
   ·exact h.forget _ _
   omega
  omega
theorem Ok.ATe{E0 E:Env}{w0 w:World}{N nb:Nat}{a:Act}{bs:List BP}:∀(l:List (Nat×XP)) {σ:St},Ok E0 w0 N nb E σ a w→Ok E0 w0 N nb E (dU bs l σ) a w
 |[],_,h=>h
 |(i,p)::l,σ,h=>by
  simp only[dU];refine Ok.ATe l ?_
  split
  ·split
   ·exact h.Xe _ _
   omega
  omega
include hT in
theorem ra{E0 E:Env}{w0 w:World}{N:Nat}{σ:St}{a:Act}{u:c.outs.V}(h:Ok E0 w0 N c.ins.G3.length E σ a w)(e:qw C.T c fn.results.toList σ=some u):
  a.defers=[]∧ ∃v,(results fn a.tmps).run P w= .ok v w∧AMe c E0 w0 u (.returned v) w:=by
 unfold qw at e;simp only[AMi,AMU]at e;obtain⟨x,e1,⟨u',m⟩,e2,rfl⟩:=e;obtain⟨v,h1,h2⟩:=qk hT h.rel e1;obtain⟨E,h,vv,h4⟩:=h.opens c.outs
 replace h2:=h4 _ _ h2
 obtain⟨hext,E1,hf⟩:=jZ (tm:=[x]) (vals:=[v]) h.rel.bx ⟨h2,trivial⟩ vv gI pS e2;obtain⟨E2,q1,q2,q3,q4,q5⟩:=hf.shared h.rel.bx;refine⟨h.rel.N8,v,h1,v,E2,rfl,h.base.trans q3,q4,q5,fun i hi z_=> ?_⟩;obtain⟨p,hp,hg⟩:∃p,c.outs.G3[i]? =some p∧p≠ .gone:=by
  unfold alive at z_;cases hh:c.outs.G3[i]? with
  |none=>rw[hh]at z_;cases z_
  |some p=>
   refine⟨p,rfl,fun hp=> ?_⟩;rw[hh,hp]at z_;cases z_
 have hm1:=hext.2 i i (by have:=gi (i:=0) (n:=c.ins.G3.length) hp hg (by omega);simpa using this);obtain⟨b,B,g1,g2,g3,_⟩:=tq e2 i p hp hg;rw[hm1]at g1;cases g1;have hid:=hf.ids i i hm1;have AEQ:=h.ids i hi (fun hd=>by rw[g2]at hd;cases hd;exact g3 rfl);rw[q1,q2];exact⟨hid.1.trans AEQ.1,hid.2.trans AEQ.2⟩
include hT hΓ hm in
theorem AEC{code:Code}(hb:fn.body=some code)(hl:(labels code).Nodup){J:Nat→Nat→St→Option c.outs.V}(hJ:zN C c fn code J)
  {E0:Env} {w0:World} {u:c.outs.V} {Q:lA} (hp:dd Q)
  (hg:Good E0 w0 fn.ntmps c.ins.G3.length u (fun _=>qw C.T c fn.results.toList) (fun _ _ _=>none) (fun _=>qw C.T c fn.results.toList) Q):
  ∀n,JOk P E0 w0 fn.ntmps c.ins.G3.length u (J n) code Q:=by
 intro n
 induction n with
 |zero=>
  intro ℓ body Q' Rh E σ a w h e;obtain⟨s,F,j1,j2,j3⟩:=hJ ℓ Rh.label;rw[j1]at e;simp only[jump]at e;split at e
  ·rw[AMi]at e
   obtain⟨q,_,e⟩:=e;rw[j2]at e;cases e
  ·cases e
 |succ n ih=>
  intro ℓ body Q' Rh E σ a w h e;obtain⟨s,F,j1,j2,j3⟩:=hJ ℓ Rh.label;rw[j1]at e;simp only[jump]at e;split at e
  case isFalse=>cases e
  rename_i qO;rw[AMi]at e;obtain⟨⟨v,m⟩,e1,e2⟩:=e;dsimp only at e2;obtain⟨E,h⟩:=h.AXr (bs:=s.G3) s.EM
  replace h:=h.ATe (bs:=s.G3) s.EM
  revert h e1
  generalize dU s.G3 s.EM (QJ s.G3 s.EM σ)=σ
  intro e1 h;obtain⟨E,h,vv,h4⟩:=h.opens s;obtain⟨hext,E1,hf⟩:=jZ h.rel.bx h.rel.tm vv gI pS e1;obtain⟨E2,q1,q2,q3,q4,q5⟩:=hf.shared h.rel.bx;have Pe:fn.ntmps=a.tmps.toList.length:=by rw[←CX.len h.rel.tm,h.tm]
  have Fj:Ok E0 w0 fn.ntmps c.ins.G3.length E2 (s.st fn.ntmps v) a w:=by
   refine⟨⟨h.rel.N8,g_ q5 (CX.undef Pe),q4⟩,h.base.trans q3,?_,?_,fun i hi hd=> ?_⟩
   ·have:=CX.len (g_ q5 (CX.undef Pe))
    simp only[BE.st];rw[this,←Pe]
   ·simp only[BE.st]
    rw[Tf];exact qO
   ·simp only[BE.st]at hd
    have hp':s.G3[i]? =some (s.G3[i]'(by omega)):=AMJ _;have hng:s.G3[i]'(by omega)≠ .gone:=fun vW=>by
     obtain⟨z,z1,_⟩:=bN id (u:=v.2) hp';apply hd;rw[z1]
     generalize s.G3[i]'(by omega)=pp at z vW
     subst vW;rfl
    have hm1:=hext.2 i i (by have:=gi (i:=0) (n:=c.ins.G3.length) hp' hng (by omega);simpa using this);obtain⟨b,B,g1,g2,g3,_⟩:=tq e1 i _ hp' hng;rw[hm1]at g1;cases g1;have hid:=hf.ids i i hm1;have AEQ:=h.ids i hi (fun hd=>by rw[g2]at hd;cases hd;exact g3 rfl);rw[q1,q2];exact⟨hid.1.trans AEQ.1,hid.2.trans AEQ.2⟩
  have yz:=j3 n v u e2;obtain⟨kn',kx',kr',hfind,lr,hnp,hj⟩:=AJH hT hΓ hm hl hp hg ih Rh;simp only[Hf,hb,hfind]at yz;refine OU.AFY (xM hT hΓ hm (hnp.then _) (kn:=fun _ σ=>J n ℓ σ) ⟨fun E σ a w h e=> ?_,fun id E σ a w h e=>lr.x id E σ a w h e,lr.r⟩ hj Fj yz);exact ih ℓ body Q' Rh E σ a w h (e [])
include hT hΓ hm in
theorem ACc{f:Nat}(hf:AUj P f fn c){J:Nat→Nat→St→Option c.outs.V}(hJ:∀code,fn.body=some code→zN C c fn code J)
  (hg:∀v u,c.g v=some u→ ∃n,∀ω,Cy C c fn (J n) ω v=some u):W0 P f c:=by
 refine⟨hf.con,hf.call,fun E w v args u Ie hB hS hgv=> ?_⟩;obtain⟨n,hn⟩:=hg v u hgv;cases hb:fn.body with
 |none=>
  have:=hn [];simp only[Cy,hb]at this;cases this
 |some code=>
  simp only[Cy,hb]at hn;refine calls_of_wp hf.at_ hb ?_
  have hp:dd (bodyPost P fn (AMe c E w u)):=fun ch a w' hq=>by
   obtain⟨_,x,E',hx,_⟩:=hq;cases hx
  have lr:Good E w fn.ntmps c.ins.G3.length u (fun _=>qw C.T c fn.results.toList) (fun _ _ _=>none) (fun _=>qw C.T c fn.results.toList) (bodyPost P fn (AMe c E w u)):=
   ⟨fun E' σ a w' h e=>ra hT h (e []),fun id E' σ a w' h e=>(by cases e []),fun E' σ a w' h e=>ra hT h (e [])⟩
  have Fj:Ok E w fn.ntmps c.ins.G3.length E (c.ins.st fn.ntmps v) { tmps:=args++Array.replicate (fn.ntmps-args.size) undef,defers:=[] } w:=by
   have htm:CX (XR E w (J1.mk id c.ins.G3 v.2)) (G8.mk id c.ins.EM v.1 (List.replicate fn.ntmps (.c .undef))) (args++Array.replicate (fn.ntmps-args.size) undef).toList:=by
    rw[Array.toList_append];refine g_ (fG hS) (CX.undef ?_);have:=hf.tmps;simp;omega
   refine⟨⟨rfl,htm,hB⟩,dA.refl E w,?_,by simp only[BE.st];rw[Tf];exact AP3 _,fun _ _ _=>⟨rfl,rfl⟩⟩;simp only[BE.st];rw[CX.len htm];have:=hf.tmps;simp;omega
  exact xM hT hΓ hm hp lr (AEC hT hΓ hm hb (hf.labels code hb) (hJ code hb) hp lr n) Fj hn
end
end Go.Fw
end
section
namespace Go.Fw
def F6:List Ty→Ty
 |[]=> .unit
 |c::l=> .cons c (F6 l)
def vI(row:TypeId→Option (List Ty×Bool))(cells:TypeId→Nat):Nat→List Field→Option (List Ty)
 |_,[]=>some []
 |o,f::fs=>
  match row f.type with
  |some (l,_)=>if f.offset=o∧cells f.type=l.length then(vI row cells (o+l.length) fs).map (l++ ·)else none
  |none=>none
def j5:List Ty×Bool→Ty
 |(l,true)=>F6 l
 |([c],false)=>c
 |_=> .unit
def rowOf(P:Program):Nat→TypeId→Option (List Ty×Bool)
 |0,_=>none
 |n+1,t=>
  match P.underlying t with
  |some (.int k)=>some ([.int k],false)
  |some .bool=>some ([.bool],false)
  |some .string=>some ([.str],false)
  |some (.slice e)=>
   match rowOf P n e with
   |some q=>if P.cellsOf e=q.1.length∧0<q.1.length then some ([.sl (j5 q)],false)else none
   |none=>none
  |some (.struct fs)=>
   match vI (rowOf P n) P.cellsOf 0 fs.toList with
   |some l=>if P.cellsOf t=l.length then some (l,true)else none
   |none=>none
  |_=>none
def Vd:(t:Ty)→t.D→Prop
 | .int k,x=>(Lit.int k x).wf=true
 | .bool,_=>True
 | .str,x=>List.length x≤maxLen
 | .sl r,x=>List.length x≤maxLen∧ ∀y∈x,Vd r y
 | .unit,_=>True
 | .cons c r,x=>Vd c x.1∧Vd r x.2
theorem iZ{α:Type}{p:Nat→α→Prop}:∀{n:Nat},(∀i,i<n→ ∃y,p i y)→ ∃x:List α,x.length=n∧ ∀(i:Nat) y,x[i]? =some y→p i y
 |0,_=>⟨[],rfl,fun i y h=>by simp at h⟩
 |n+1,h=>by
  obtain⟨x,h1,h2⟩:=iZ (n:=n) (p:=p) (fun i hi=>h i (by omega));obtain⟨y,hy⟩:=h n (by omega);refine⟨x++[y],by simp[h1],fun i z hz=> ?_⟩;grind
theorem sD{w:World}{B:Nat→Prop}:∀{l m:List Ty} {cs ds:List Value} {x:(F6 l).D} {y:(F6 m).D},Rd w B (F6 l) cs x→Rd w B (F6 m) ds y→Vd (F6 l) x→Vd (F6 m) y→
  ∃z:(F6 (l++m)).D,Rd w B (F6 (l++m)) (cs++ds) z∧Vd (F6 (l++m)) z
 |[],m,cs,ds,x,y,h,k,hx,hy=>by
  simp only[F6,Rd]at h;subst h;exact⟨y,k,hy⟩
 |c::l,m,cs,ds,x,y,h,k,hx,hy=>by
  simp only[F6,Rd]at h;obtain⟨v,r,rfl,h1,h2⟩:=h;obtain⟨z,z1,z2⟩:=sD h2 k hx.2 hy;exact⟨(x.1,z),by simp only[AR6,F6,Rd];exact⟨v,r++ds,rfl,h1,z1⟩,hx.1,z2⟩
theorem zj{P:Program}{n:Nat}{t:TypeId}{l:List Ty}(h:rowOf P n t=some (l,false)):∃c,l=[c]:=by
 cases n with
 |zero=>simp[rowOf]at h
 |succ n=>
  simp only[rowOf]at h;grind
theorem tu{w:World}{B:Nat→Prop}{P:Program}{n:Nat}{t:TypeId}{q:List Ty×Bool}(h:rowOf P n t=some q){cs:List Value}{x:(F6 q.1).D}(hx:Rd w B (F6 q.1) cs x)(hv:Vd (F6 q.1) x):
  (j5 q).n=q.1.length∧ ∃y:(j5 q).D,Rd w B (j5 q) cs y∧Vd (j5 q) y:=by
 obtain⟨l,b⟩:=q;cases b with
 |true=>
  refine⟨?_,x,hx,hv⟩;clear h hx hv x;simp only[j5]
  induction l with
  |nil=>rfl
  |cons c l ih=>simp[F6,Ty.n,ih]
 |false=>
  obtain⟨c,rfl⟩:=zj h;simp only[F6,Rd]at hx;obtain⟨v,r,rfl,h1,h2⟩:=hx;subst h2;refine⟨?_,x.1,h1,hv.1⟩;have:=kN h1;grind[j5]
theorem AAi(a:Addr):a.add 0=a:=by rfl
theorem AAI{w:World}{a:Addr}{v:Value}(h:w.cell? a=some v):a.spot=none:=by
 unfold World.cell? at h;split at h
 all_goals simp_all
section
variable{H:Type} {enc:TypeId×Value→H} {P:Program} {w:World} {spare:Nat→Bool} {held:Bool}
theorem iu:∀(n:Nat) {t:TypeId} {q:List Ty×Bool},rowOf P n t=some q→ ∀{fuel:Nat} {cs:List Value} {x:DataW H×List MemPlace},DataW.trod enc P w 0 spare held fuel t cs=some x→
  ∃y:(F6 q.1).D,Rd w (fun b=>b<w.heap.size) (F6 q.1) cs y∧Vd (F6 q.1) y
 |0,t,q,h,_,_,_,_=>by simp[rowOf]at h
 |n+1,t,q,h,fuel,cs,x,hx=>by
  simp only[rowOf]at h;split at h
  ·rename_i k hu
   cases h;obtain⟨m,rfl,_,hw⟩:=DataW.trod_int hu hx;exact⟨(m,()),by simp[F6,Rd],hw,trivial⟩
  ·rename_i hu
   cases h;obtain⟨b,rfl,_⟩:=DataW.trod_bool hu hx;exact⟨(b,()),by simp[F6,Rd],trivial,trivial⟩
  ·rename_i hu
   cases h;obtain⟨s,rfl,_,hs⟩:=DataW.trod_string hu hx;refine⟨(s.data.toList,()),by simp[F6,Rd],?_,trivial⟩
   show s.data.toList.length≤maxLen
   simp_all
  ·rename_i e hu
   split at h
   case h_2=>cases h
   rename_i q' hq';split at h
   case isFalse=>cases h
   rename_i AB2;cases h;rcases DataW.trod_slice hu hx with⟨rfl,_⟩|⟨a,len,cap,elems,rest,m,_,rfl,_,_,hlc,hcm,Us,Rh,_,_⟩
   ·refine⟨([],()),?_,⟨by simp,by simp⟩,trivial⟩
    simp only[F6,Rd];simp_all
   ·have each:∀i,i<len→ ∃y:(j5 q').D,Vd (j5 q') y∧ ∃ds,ds.length=(j5 q').n∧(∀j,j<ds.length→w.cell? ((a.add (i*P.cellsOf e)).add j)=ds[j]?)∧Rd w (fun b=>b<w.heap.size) (j5 q') ds y:=by
     intro i hi;have hz:elems[i]? =some (elems[i]'(by omega)):=AMJ _;have h1:=Rh i hi;rw[hz,AMi]at h1;obtain⟨ds,hds,htr⟩:=h1;obtain⟨z,z1,z2⟩:=iu n hq' htr;obtain⟨_,c1,c2⟩:=World.cells?_some hds
     grind[tu]
    obtain⟨xs,x1,x2⟩:=iZ each;refine⟨(xs,()),?_,⟨by grind,fun y hy=> ?_⟩,trivial⟩
    ·simp only[F6,Rd]
     refine⟨_,[],rfl,⟨_,cap,by rw[x1],by omega,?_⟩,rfl⟩;by_cases h0:len=0
     ·omega
     right
     obtain⟨y0,_,ds0,d0,d1,_⟩:=each 0 (by omega);have hn0:0<(j5 q').n:=by
      rw[d0.symm];have hz:elems[0]? =some (elems[0]'(by omega)):=AMJ _;have h1:=Rh 0 (by omega);rw[hz,AMi]at h1;obtain⟨ds,hds,htr⟩:=h1;obtain⟨z,z1,z2⟩:=iu n hq' htr;grind[tu]
     have hc0:=d1 0 (by omega);simp only[Nat.zero_mul,AAi]at hc0;have vh:w.cell? a=some (ds0[0]'(by omega)):=by simp_all
     have hsp:=AAI vh;obtain⟨b,o,s⟩:=a;simp only at hsp;subst hsp;refine⟨b,o,rfl,?_,fun i y hy=> ?_⟩
     ·grind[World.cell?,Array.getElem?_eq_some_iff]
     ·have hil:=(AMX.1 hy).1
      obtain⟨_,ds,e0,e1,e2⟩:=x2 i y hy;have hcn:P.cellsOf e=(j5 q').n:=by
       have hz:elems[i]? =some (elems[i]'(by omega)):=AMJ _;have h1:=Rh i (by omega);rw[hz,AMi]at h1;obtain⟨ds,hds,htr⟩:=h1;obtain⟨z,z1,z2⟩:=iu n hq' htr;grind[tu]
      refine⟨ds,e0,fun j v hj=> ?_,e2⟩;grind[List.getElem?_eq_some_iff,Addr.add_eq]
    ·obtain⟨i,hi,rfl⟩:=ARg hy
     exact(x2 i _ (AMJ hi)).1
  ·rename_i fs hu
   split at h
   case h_2=>cases h
   rename_i l hl;split at h
   case isFalse=>cases h
   rename_i ZF;cases h;obtain⟨xs,m,_,_,hlen,hxs,Rh⟩:=DataW.trod_struct hu hx;have key:∀(fs:List Field) (o:Nat) (l:List Ty) (i0:Nat),vI (rowOf P n) P.cellsOf o fs=some l→cs.length=o+l.length→(∀(i:Nat) (f:Field),fs[i]? =some f→ ∃z,DataW.trod enc P w 0 spare held m f.type ((cs.drop f.offset).take (P.cellsOf f.type))=some z)→
     ∃y:(F6 l).D,Rd w (fun b=>b<w.heap.size) (F6 l) (cs.drop o) y∧Vd (F6 l) y:=by
    intro fs
    induction fs with
    |nil=>
     intro o l i0 hl hc _;simp only[vI,AMO]at hl;subst hl;refine⟨(),?_,trivial⟩;simp only[F6,Rd];simp_all
    |cons f fs ih=>
     intro o l i0 hl hc Rh;simp only[vI]at hl;split at hl
     case h_2=>cases hl
     rename_i l1 b1 hr;split at hl
     case isFalse=>cases hl
     rename_i hof;simp only[AMU]at hl;obtain⟨l2,uF,rfl⟩:=hl;obtain⟨z,hz⟩:=Rh 0 f rfl;obtain⟨y1,a1,a2⟩:=iu n hr hz;obtain⟨y2,b1,b2⟩:=ih (o+l1.length) l2 0 uF (by grind) (fun i f hf=>Rh (i+1) f (by simp_all));grind[sD,List.drop_drop,List.take_append_drop]
   have:=key fs.toList 0 l 0 hl (by omega) (fun i f hf=>by
    grind)
   simp_all
  simp_all
end
end Go.Fw
end
section
open Go.RowKit
namespace Go.Fw
def s_(W:World):Env:={ ID:=fun _=>0,IE:=fun _=> .nilFunc,T:=fun b=>b<W.heap.size,S:=fun b=>b<W.heap.size }
abbrev pY:BE:=⟨[(0,.c (.v .bool))],[]⟩
theorem AAw{P:Program}{f:Nat}{EM:List (Nat×XP)}{g:BE.V ⟨EM,[]⟩→Option pY.V}(hs:W0 P f ⟨⟨EM,[]⟩,pY,g⟩){W:World}{args:Array Value}(x:G8.V EM)(hlen:args.size=EM.length)
  (hx:OS (s_ W) W [] id EM x args.toList) (hg:g (x,())=some ((true,()),())):Calls P f args W fun e W' =>e= .returned (.bool true)∧Below W.heap.size W W':=by
 obtain⟨_,_,h⟩:=hs;refine(h (s_ W) W (x,()) args _ hlen ⟨[],⟨rfl,fun k B F h=>by simp_all⟩,by simp,by simp,by simp,fun _ h=>h,fun _ h=>h⟩ hx hg).mono fun e W' hR=> ?_
 obtain⟨v,E',rfl,base,_,⟨⟨v',hv,hxr⟩,_⟩,_⟩:=hR;simp at hv;subst hv;have:v= .bool true:=by
  have h2:VR E' W' [] (.v .bool true) v:=hxr;exact Rj h2
 subst this;exact⟨rfl,base.os,base.tape,base.output,base.size,fun k hk=>base.heap k hk⟩
theorem AFc{W:World}{vw:List Bx}{s:Bool}{r:Ty}{v:Value}{y:List r.D}(h:Rd W (fun b=>b<W.heap.size) (.sl r) [v] y):XR (s_ W) W vw (XP.mk id (.c (.sl s r)) y) v:=by
 show Rd W (if s then _ else _) (.sl r) [v] y
 cases s<;>exact h
end Go.Fw
end
section
namespace Go.Fw
def Pw:List (Nat×QB)→Nat→Option QB
 |[],_=>none
 |(f,c)::l,g=>if f=g then some c else Pw l g
def AFU(P:Program):List (Nat×QB)→Prop
 |[]=>True
 |q::l=>W0 P q.1 q.2∧AFU P l
theorem p7{P:Program}:∀{l:List (Nat×QB)},AFU P l→gV P (Pw l)
 |[],_=>fun f c e=>by cases e
 |(g,d)::l,h=>fun f c e=>by
  simp only[Pw]at e;split at e
  ·rename_i hg
   cases e;subst hg;exact h.1
  ·exact p7 h.2 f c e
theorem W6{P:Program}{f:Nat}{fn:Func}(hf:P.funcs[f]? =some fn)(hn:(fn.name== "runtime.NumGoroutine")=false)(hb:fn.body.isNone=false)(args:Array Value)(w:World):
  (callFunc f args).run P w= .ok (.enter f args) w:=by
 have h1:fn.name≠ "runtime.NumGoroutine" :=by simp_all
 have h2:fn.body≠none:=by
  grind
 simp[callFunc,hf,h1,h2]
def h_(fn:Func)(c:QB):Bool:=
 !(
  fn.name== "runtime.NumGoroutine")&& !fn.body.isNone&&c.ok&&decide (c.ins.EM.length≤fn.ntmps)&&(match fn.body with
  |some code=>decide (labels code).Nodup
  |none=>true)
theorem AaK{P:Program}{f:Nat}{fn:Func}{c:QB}(hf:P.funcs[f]? =some fn)(h:h_ fn c=true):AUj P f fn c:=by
 simp only[h_,AMY,AR3,AOV]at h;obtain⟨⟨⟨⟨h1,h2⟩,h3⟩,h4⟩,h5⟩:=h;refine⟨hf,W6 hf h1 h2,h3,h4,fun code hc=> ?_⟩;simp_all
def gW(C:Zo)(c:QB)(fn:Func)(J:Nat→Nat→St→Option c.outs.V):List Nat→Prop
 |[]=>True
 | ℓ ::l=>(∃(s:BE) (F:Nat→s.V→Option c.outs.V),(∀n,J n ℓ =jump c.ins.G3.length s (F n))∧(∀v,F 0 v=none)∧
  ∀n v,∀ω,Hf C c fn (J n) ℓ ω (s.st fn.ntmps v)=F (n+1) v)∧gW C c fn J l
theorem gW.ok{C:Zo}{c:QB}{fn:Func}{J:Nat→Nat→St→Option c.outs.V}:∀{l:ABH},gW C c fn J l→ ∀ ℓ ∈l,∃(s:BE) (F:Nat→s.V→Option c.outs.V),(∀n,J n ℓ =jump c.ins.G3.length s (F n))∧(∀v,F 0 v=none)∧
  ∀n v y,F (n+1) v=some y→ ∀ω,Hf C c fn (J n) ℓ ω (s.st fn.ntmps v)=some y
 |[],_,ℓ,h=>by cases h
 |k::l,hl,ℓ,h=>by
  rcases AQw.1 h with rfl|h
  ·obtain⟨⟨s,F,h1,h2,h3⟩,_⟩:=hl
   exact⟨s,F,h1,h2,fun n v y e ω=>(h3 n v ω).trans e⟩
  ·exact gW.ok hl.2 ℓ h
def iH(fn:Func):ABH:=
 match fn.body with
 |some code=>labels code
 |none=>[]
def CD:List AFi→Nat→List Nat
 |[],_=>[]
 |(r,h)::l,q=>if r=q then h else CD l q
theorem AEN{P:Program}{T:J0}{l:List (Nat×QB)}{hint:Nat→List Nat}{f:Nat}{fn:Func}{c:QB}(hT:Ei P T)(hm:P.follows .mixedOrders=true)(hf:P.funcs[f]? =some fn)(hl:AFU P l)(hc:h_ fn c=true)
  {J:Nat→Nat→St→Option c.outs.V} {L:ABH} (hL:iH fn=L) (hJ:gW ⟨T,Pw l,hint⟩ c fn J L) (n:Nat) (he:∀ω v,Cy ⟨T,Pw l,hint⟩ c fn (J n) ω v=c.g v):W0 P f c:=
 ACc (C:=⟨T,Pw l,hint⟩) hT (p7 hl) hm (AaK hf hc) (J:=J) (fun code hb ℓ hℓ =>gW.ok hJ ℓ (by
  grind[iH])) fun v u hg=>⟨n,fun ω=>(he ω v).trans hg⟩
end Go.Fw
end
section
namespace Go.M
abbrev DF:Nat:=Go.Fw.DF
def AU(x:Int):Int:=IntKind.wrap .i64 x
def cO(κ:IntKind)(a b:Int):Int:=κ.wrap (BitVec.ofInt κ.bits a &&& BitVec.ofInt κ.bits b).toNat
def bOr(κ:IntKind)(a b:Int):Int:=κ.wrap (BitVec.ofInt κ.bits a ||| BitVec.ofInt κ.bits b).toNat
def APz(κ:IntKind)(a b:Int):Int:=κ.wrap (BitVec.ofInt κ.bits a ^^^ BitVec.ofInt κ.bits b).toNat
theorem oG:∃n:Nat,2^64≤n:=⟨_,AP3 _⟩
noncomputable def Ab:Nat:=Classical.choose oG
theorem eH:2^64≤Ab:=Classical.choose_spec oG
def uo{α:Type}(p:Int)(v l:List α):Option (List α):=if 0≤p∧p≤(l.length:Int)∧l.length+v.length≤DF then some (l.take p.toNat++v++l.drop p.toNat)else none
def ACI{α:Type}(p q:Int)(l:List α):Option (List α):=if 0≤p∧p≤q∧q≤(l.length:Int)then some (l.take p.toNat++l.drop q.toNat)else none
end Go.M
end
section
namespace Go.Fw
structure SP (P:Program) where
 f:Nat
 c:QB
 h:W0 P f c
def SP.l{P:Program}:List (SP P)→List (Nat×QB)
 |[]=>[]
 |s::l=>(s.f,s.c)::SP.l l
theorem zJ{P:Program}:∀l:List (SP P),AFU P (SP.l l)
 |[]=>trivial
 |s::l=>⟨s.h,zJ l⟩
@[reducible] def AP.Cu (R:Type):AP→Type
 | .qP _ rs=>ZY rs→R
 | .v t=>t.D→R
 | .sl _ r=>List r.D→R
 | .mG r=>r.D→R
 | .jy _ _=>Nat×Nat→R
 |_=>R
def AP.un{R:Type}:(p:AP)→p.Cu R→p.V→R
 | .qP _ _,f,x=>f x
 | .v _,f,x=>f x
 | .sl _ _,f,x=>f x
 | .mG _,f,x=>f x
 | .jy _ _,f,x=>f x
 | .nil,f,_=>f
 | .ref _,f,_=>f
 | .ptr _ _,f,_=>f
 | .fn _ _,f,_=>f
 | .any,f,_=>f
@[reducible] def X7.Cu (R:Type):List AP→Type
 |[]=>R
 |p::l=>p.Cu (X7.Cu R l)
def X7.un{R:Type}:(l:List AP)→X7.Cu R l→X7.V l→R
 |[],f,_=>f
 |p::l,f,x=>X7.un l (p.un f x.1) x.2
@[reducible] def YK.Cu (R:Type):List (AP ⊕ List AP)→Type
 |[]=>R
 | .inl p::l=>p.Cu (YK.Cu R l)
 | .inr q::l=>X7.Cu (YK.Cu R l) q
def YK.un{R:Type}:(l:List (AP ⊕ List AP))→YK.Cu R l→YK.V l→R
 |[],f,_=>f
 | .inl p::l,f,x=>YK.un l (p.un f x.1) x.2
 | .inr q::l,f,x=>YK.un l (X7.un q f x.1) x.2
@[reducible] def XP.Cu (R:Type):XP→Type
 | .c p=>p.Cu R
 | .agg l=>X7.Cu R l
 | .row r=>r.D→R
 | .Nr l=>YK.Cu R l
def XP.un{R:Type}:(p:XP)→p.Cu R→p.V→R
 | .c p,f,x=>p.un f x
 | .agg l,f,x=>X7.un l f x
 | .row _,f,x=>f x
 | .Nr l,f,x=>YK.un l f x
@[reducible] def BP.Cu (R:Type):BP→Type
 | .mem l=>X7.Cu R l
 | .sl _ r=>List r.D→R
 | .gone=>R
def BP.un{R:Type}:(p:BP)→p.Cu R→p.V→R
 | .mem l,f,x=>X7.un l f x
 | .sl _ _,f,x=>f x
 | .gone,f,_=>f
@[reducible] def G8.Cu (R:Type):List (Nat×XP)→Type
 |[]=>R
 |(_,p)::l=>p.Cu (G8.Cu R l)
def G8.un{R:Type}:(l:List (Nat×XP))→G8.Cu R l→G8.V l→R
 |[],f,_=>f
 |(_,p)::l,f,x=>G8.un l (p.un f x.1) x.2
@[reducible] def J1.Cu (R:Type):List BP→Type
 |[]=>R
 |p::l=>p.Cu (J1.Cu R l)
def J1.un{R:Type}:(l:List BP)→J1.Cu R l→J1.V l→R
 |[],f,_=>f
 |p::l,f,x=>J1.un l (p.un f x.1) x.2
@[reducible] def BE.Cu (s:BE) (R:Type):Type:=G8.Cu (J1.Cu R s.G3) s.EM
def BE.un{R:Type}(s:BE)(f:s.Cu R)(v:s.V):R:=J1.un s.G3 (G8.un s.EM f v.1) v.2
structure Lp (o:BE) where
 ℓ :Nat
 s:BE
 F:Nat→s.Cu (Option o.V)
def LN{o:BE}(nb:Nat):List (Lp o)→Nat→Nat→St→Option o.V
 |[],_,_,_=>none
 |p::l,n,ℓ,σ=>if ℓ =p.ℓ then jump nb p.s (p.s.un (p.F n)) σ else LN nb l n ℓ σ
inductive X3 (C:Zo) (c:QB) (fn:Func) (J:Nat→Nat→St→Option c.outs.V):List (Lp c.outs)→Prop
 |nil:X3 C c fn J []
 |cons {ℓ :Nat} {s:BE} {F:Nat→s.Cu (Option c.outs.V)} {l:List (Lp c.outs)} (h0:∀v,s.un (F 0) v=none) (h1:∀n v ω,Hf C c fn (J n) ℓ ω (s.st fn.ntmps v)=s.un (F (n+1)) v) (h:X3 C c fn J l):X3 C c fn J (⟨ℓ,s,F⟩::l)
def Lp.ls{o:BE}:List (Lp o)→List Nat
 |[]=>[]
 |p::l=>p.ℓ ::Lp.ls l
theorem AD8{o:BE}{nb:Nat}:∀{l:List (Lp o)} (n:Nat) {ℓ :Nat} (p:Lp o) (pre:List (Lp o)),ℓ =p.ℓ →(Lp.ls (pre++p::l)).Nodup→LN nb (pre++p::l) n ℓ =jump nb p.s (p.s.un (p.F n))
 |l,n,ℓ,p,[],e,_=>by
  funext σ
  simp[LN,e]
 |l,n,ℓ,p,q::pre,e,hn=>by
  funext σ
  have hq: ℓ ≠q.ℓ :=by
   intro h;simp only[AR6,Lp.ls,AU_]at hn;refine hn.1 ?_
   rw[←h,e];clear hn h e
   induction pre with
   |nil=>simp[Lp.ls]
   |cons a m ih=>simp[Lp.ls,ih]
  have:=congrFun (AD8 (nb:=nb) (l:=l) n p pre e (by grind[Lp.ls,List.nodup_cons])) σ;simp only[AR6,LN,AMG hq];omega
theorem X3.ok{C:Zo}{c:QB}{fn:Func}{nb:Nat}(hb:nb=c.ins.G3.length){L:List (Lp c.outs)}(hn:(Lp.ls L).Nodup):∀{l pre:List (Lp c.outs)},L=pre++l→X3 C c fn (LN nb L) l→gW C c fn (LN nb L) (Lp.ls l)
 |[],_,_,_=>trivial
 |⟨ℓ,s,F⟩::l,pre,e,.cons h0 h1 h=>by
  refine⟨⟨s,fun n=>s.un (F n),fun n=> ?_,h0,fun n v ω=>h1 n v ω⟩,X3.ok hb hn (pre:=pre++[⟨ℓ,s,F⟩]) (by simp[e]) h⟩;subst hb;rw[e];exact AD8 n ⟨ℓ,s,F⟩ pre rfl (by simp_all)
def mkP{P:Program}{T:J0}(hT:Ei P T)(hm:P.follows .mixedOrders=true){f:Nat}{fn:Func}(hf:P.funcs[f]? =some fn)(i o:BE)(g:i.Cu (Option o.V))(l:List (SP P))(h:List AFi)(L:List (Lp o))(n:Nat)
  (hL:iH fn=Lp.ls L) (hd:decide (Lp.ls L).Nodup=true) (hc:h_ fn ⟨i,o,i.un g⟩=true)
  (hJ:X3 ⟨T,Pw (SP.l l),CD h⟩ ⟨i,o,i.un g⟩ fn (LN i.G3.length L) L)
  (he:∀ω v,Cy ⟨T,Pw (SP.l l),CD h⟩ ⟨i,o,i.un g⟩ fn (LN i.G3.length L n) ω v=i.un g v):SP P:=
 ⟨f,⟨i,o,i.un g⟩,AEN (l:=SP.l l) hT hm hf (zJ l) hc (J:=LN i.G3.length L) (L:=Lp.ls L) hL (X3.ok rfl (by simp_all) (pre:=[]) rfl hJ) n he⟩
theorem AF{Q:List Bool→Prop}(a:Q [])(b:∀ω,Q (false::ω))(d:∀ω,Q (true::ω)):∀ω,Q ω
 |[]=>a
 |false::ω=>b ω
 |true::ω=>d ω
end Go.Fw
end
section
namespace Go.Fw
open Go.Proofs Go.Shelf Go.RowKit Go.Lib
structure cl (P:Program) (ρ:Ren) (nm:String) (fv:Func):Prop where
 mixed:P.follows .mixedOrders=true
 f22:P.funcs[ρ.f 22]? =some { Body2.n22 ρ with name:=nm }
 n22:(nm== "runtime.NumGoroutine")=false
 f29:P.funcs[ρ.f 29]? =some fv
 n29:(fv.name== "runtime.NumGoroutine")=false
 b29:fv.body.isNone=true
 e29:Extern.findNext fv=none
 x29:Extern.find fv=some (Extern.SlicesOverlaps.overlaps #[(ρ.t 24),(ρ.t 24)] #[(ρ.t 4)])
 t0:P.underlying (ρ.t 0)=some (TypeDesc.tuple #[])
 a0:∀w,(isAgg (ρ.t 0)).run P w= .ok false w
 z0:∀w,(Go.sizeOf (ρ.t 0)).run P w= .ok 1 w
 v0:∀w,(zeroValue (ρ.t 0)).run P w= .ok (Value.tuple #[]) w
 t3:P.underlying (ρ.t 3)=some (TypeDesc.int IntKind.i64)
 a3:∀w,(isAgg (ρ.t 3)).run P w= .ok false w
 z3:∀w,(Go.sizeOf (ρ.t 3)).run P w= .ok 1 w
 v3:∀w,(zeroValue (ρ.t 3)).run P w= .ok (Value.int IntKind.i64 0) w
 t4:P.underlying (ρ.t 4)=some (TypeDesc.bool)
 a4:∀w,(isAgg (ρ.t 4)).run P w= .ok false w
 z4:∀w,(Go.sizeOf (ρ.t 4)).run P w= .ok 1 w
 v4:∀w,(zeroValue (ρ.t 4)).run P w= .ok (Value.bool false) w
 t24:P.underlying (ρ.t 24)=some (TypeDesc.slice (ρ.t 9))
 a24:∀w,(isAgg (ρ.t 24)).run P w= .ok false w
 z24:∀w,(Go.sizeOf (ρ.t 24)).run P w= .ok 1 w
 v24:∀w,(zeroValue (ρ.t 24)).run P w= .ok (Value.slice none 0 0) w
section
variable{P:Program} {ρ:Ren} {nm:String} {fv:Func}
theorem bA{w:World}{dT sT ty elem:TypeId}{i0:TypeInfo}{b o AWG AZM VU iC n:Nat}{a:Option Addr}{cs:List Value}(hu:P.underlying dT=some (.slice elem))(hi:P.info? elem=some i0)(hn:n=Nat.min VU AWG)
  (ANI:∀W:World,W=w→(Builtin.firstCells i0.size n (.slice a VU iC)).run P W= .ok cs.toArray W) (nX:w.there b o cs.length) (h1:∀v∈cs,v.oneCell' =true):
  (Builtin.copy_ #[dT,sT] ty #[.slice (some ⟨b,o,none⟩) AWG AZM,.slice a VU iC]).run P w= .ok (goInt n) (w.setCells b o cs):=by
 have qM:=run_storeCells_cells (P:=P) b o cs 0 w (by simpa using fun j hj=>(nX j hj).1) (by simpa using fun j hj=>(nX j hj).2) h1;rw[ASI]at qM;have:=ANI w rfl;simp[Builtin.copy_,run_underlying hu,Builtin.lenOf,sizeOf,typeInfo,hi,←hn,this,qM]
set_option maxHeartbeats 4000000 in
set_option maxRecDepth 100000 in
theorem ACh(L:cl P ρ nm fv){k:Nat}(z9:∀w,(Go.sizeOf (ρ.t 9)).run P w= .ok k w)(ad:Option Addr)(n c i:Nat)(va:Option Addr)(vc:Nat)(w:World)(hi:i≤n)(hnc:n≤c):
  Calls P (ρ.f 22) #[.slice ad n c,.int .i64 i,.slice va 0 vc] w fun e w' =>e= .returned (.slice ad n c)∧w' =w:=by
 have t0:=L.t0;have a0:=L.a0;have z0:=L.z0;have v0:=L.v0;have t3:=L.t3;have a3:=L.a3;have z3:=L.z3;have v3:=L.v3;have t4:=L.t4;have a4:=L.a4;have z4:=L.z4;have v4:=L.v4;have t24:=L.t24;have a24:=L.a24;have z24:=L.z24;have v24:=L.v24;have u0:=run_underlying L.t0;have u3:=run_underlying L.t3;have u4:=run_underlying L.t4;have Ip:=run_underlying L.t24;have mixed:=L.mixed
 go_enter L.f22,Body2.n22_ntmps ρ
 cases ad with
 |none=>
  go_wp2
  go_ret
  exact⟨rfl,rfl⟩
 |some a=>
  obtain⟨ab,ao,asp⟩:=a
  go_wp2
  all_goals (go_ret;exact⟨rfl,rfl⟩)
theorem kb{w:World}(tS tR e:TypeId)(ht:P.underlying tS=some (.slice e))(size:Nat)(hz:∀w,(Go.sizeOf e).run P w= .ok size w)
  (a b:Addr) (la ca lb cb:Nat) (ax:a.block≠b.block) (tA tB:TypeId) (kA kB:Nat)
  (hsa:w.shape? a.block=some (tA,kA)) (hsb:w.shape? b.block=some (tB,kB)) (hkA:kA≠0)
  (hfb:w.frozen? b=false) (hfe:w.frozen? { block:=b.block,off:=kB }=false):
  (Extern.SlicesOverlaps.overlaps #[tS,tS] #[tR] #[.slice (some a) la ca,.slice (some b) lb cb]).run P w= .ok (.bool false) w:=by
 have qO:(a.block !=b.block)=true:=by simp_all
 have AaL:(a.block==b.block)=false:=by simp_all
 change Sem.run P (α:=Value) (do
  let some t:=(#[tS,tS]:Array TypeId)[0]?|stuck "slices.overlaps: no parameter types"
  let .slice elem←underlying t|stuck "slices.overlaps: slice type expected"
  let size←sizeOf elem
  match(some a:Option Addr),(some b:Option Addr)with
  |some a,some b=>
   if la=0∨lb=0∨size=0 then pure (Value.bool false)
   else if a.block !=b.block&&(←frozen a)&&(←frozen b)then unsupported .addressObserved
   else do
    if a.block !=b.block then do
     noView a;noView b
     if←mayBeOne a b then return Value.bool ((←choose (.extern "sameAddr.stringBytes" 2))==1)
    pure (Value.bool (a.block==b.block&&a.off<b.off+lb*size&&b.off<a.off+la*size))
  |_,_=>pure (Value.bool false)) w=_
 by_cases h0:la=0∨lb=0∨size=0
 ·simp[run_underlying ht,hz,h0]
 ·cases kA with
  |zero=>omega
  |succ kA=>
   cases hfa:w.frozen? a<;>cases hfae:w.frozen? { block:=a.block,off:=kA+1 }<;>
    simp[run_underlying ht,hz,h0,qO,AaL,frozen,noView,viewAt,mayBeOne,stringish,shape,Sem.run,hsa,hsb,hfb,hfe,hfa,hfae]
set_option maxHeartbeats 4000000 in
set_option maxRecDepth 100000 in
theorem AAR(L:cl P ρ nm fv){i0:TypeInfo}(uD:P.info? (ρ.t 9)=some i0)(hs0:0<i0.size)(b off n c i:Nat)(va:Addr)(m vc:Nat)(cs vs:List Value)(w:World)(hi:i<n)(hm:0<m)(TH:n+m≤c)(X9:n+m≤DF)(hvb:va.block≠b)
  (ZF:cs.length=n*i0.size) (hvl:vs.length=m*i0.size) (vh:Bb w b off cs) (nX:w.there b off ((n+m)*i0.size))
  (V6:∀W:World,W.heap[va.block]? =w.heap[va.block]?→(Builtin.firstCells i0.size m (.slice (some va) m vc)).run P W= .ok vs.toArray W) (h1c:∀v∈cs,v.oneCell' =true) (h1v:∀v∈vs,v.oneCell' =true)
  (tA tB:TypeId) (kA kB:Nat) (hsa:w.shape? va.block=some (tA,kA)) (hsb:w.shape? b=some (tB,kB)) (hkA:kA≠0) (hfe:w.frozen? ⟨b,kB,none⟩=false):
  Calls P (ρ.f 22) #[.slice (some ⟨b,off,none⟩) n c,.int .i64 i,.slice (some va) m vc] w fun e w' =>
   e= .returned (.slice (some ⟨b,off,none⟩) (n+m) c)∧ ∃W:World,W.heap=w.heap∧Grown w W∧w' =(W.setCells b (off+(i+m)*i0.size) (cs.drop (i*i0.size))).setCells b (off+i*i0.size) vs:=by
 have t0:=L.t0;have a0:=L.a0;have z0:=L.z0;have v0:=L.v0;have t3:=L.t3;have a3:=L.a3;have z3:=L.z3;have v3:=L.v3;have t4:=L.t4;have a4:=L.a4;have z4:=L.z4;have v4:=L.v4;have t24:=L.t24;have a24:=L.a24;have z24:=L.z24;have v24:=L.v24;have u0:=run_underlying L.t0;have u3:=run_underlying L.t3;have u4:=run_underlying L.t4;have Ip:=run_underlying L.t24;have z9:∀w,(Go.sizeOf (ρ.t 9)).run P w= .ok i0.size w:=fun w=>by simp[sizeOf,typeInfo,uD]
 have mixed:=L.mixed;have AEE:=X9;simp only[DF]at AEE;have hz1: ¬((m:Int)=0):=by omega
 have hz2: ¬((i:Int)=(n:Int)):=by omega
 generalize hk:i0.size=k at*
 have hmul:(i+m)*k≤(n+m)*k:=AQY _ (by omega);have ADR:i*k≤n*k:=AQY _ (by omega);have FW:(i+m)*k<(n+m)*k:=Nat.mul_lt_mul_of_pos_right (by omega) hs0;have hnm:(n+m)*k=n*k+m*k:=ARz ..;have him:(i+m)*k=i*k+m*k:=ARz ..;have hov:∀lb cb,(callFunc (ρ.f 29) #[.slice (some va) m vc,.slice (some ⟨b,off+(i+m)*k,none⟩) lb cb]).run P w= .ok (.value (.bool false)) w:=fun lb cb=>by
  rw[run_callFunc_extern L.f29 L.n29 L.b29 L.e29 L.x29,
   kb (ρ.t 24) (ρ.t 4) (ρ.t 9) L.t24 k z9 va ⟨b,off+(i+m)*k,none⟩ m vc lb cb hvb tA tB kA kB hsa hsb hkA (nX _ FW).2 hfe]
  rfl
 have zu:(cs.drop (i*k)).length=(n-i)*k:=by rw[AT7,ZF,ATz]
 have hw1:IntKind.i64.wrap ((i:Int)+(m:Int))=(i:Int)+(m:Int):=by rw[IntKind.wrap_i64];omega
 have hb1:(0:Int)≤(i:Int)+(m:Int):=by omega
 have UI:i≤n:=by omega
 have htn:((i:Int)+(m:Int)).toNat=i+m:=by omega
 have hb2: ¬(c=i+m):=by omega
 have hb3:(i:Int)≤(n:Int)+(m:Int):=by omega
 have hb4: ¬(c=i):=by omega
 have AUi:∀ty dc sc,(Builtin.copy_ #[(ρ.t 24),(ρ.t 24)] ty #[.slice (some ⟨b,off+(i+m)*k,none⟩) (n+m-(i+m)) dc,.slice (some ⟨b,off+i*k,none⟩) (n+m-i) sc]).run P w.drew= .ok (goInt (n-i:Nat)) (w.drew.setCells b (off+(i+m)*k) (cs.drop (i*k))):=fun ty dc sc=>
  bA (n:=n-i) L.t24 uD (by simp only[Nat.min_def];split<;>omega) (fun W hW=>by
   subst hW;simp only[Builtin.firstCells,hk];have hl:Bb w.drew b (off+i*k) (cs.drop (i*k)):=fun j v hj=>by
    rw[ATQ]at hj;have:=vh _ v hj
    rwa [←ASG]at this
   rw[←zu];exact MQ hl) (fun j hj=>by
    rw[zu]at hj;have:(i+m)*k+j<(n+m)*k:=by
     rw[hnm,him];have:(n-i)*k=n*k-i*k:=ATz ..;omega
    have:=nX _ this;rw[←ASG]at this;exact this) (fun v hv=>h1c v (ATh hv))
 obtain⟨W1,hW1⟩:∃W1,W1=w.drew.setCells b (off+(i+m)*k) (cs.drop (i*k)):=⟨_,rfl⟩;have AXE:W1.heap[va.block]? =w.heap[va.block]?:=by rw[hW1];exact DQ _ _ _ _ _ hvb
 have AOH:W1.there b (off+i*k) vs.length:=fun j hj=>by
  rw[hvl]at hj;have h0:=nX (i*k+j) (by omega);rw[←ASG]at h0;rw[hW1];refine⟨?_,?_⟩
  ·refine isSome_setCells b _ _ _ (fun t ht=> ?_) _ h0.1
   rw[zu]at ht;have h2:(i+m)*k+t<(n+m)*k:=by
    rw[hnm,him];have:(n-i)*k=n*k-i*k:=ATz ..;omega
   have:=(nX _ h2).1;rw[←ASG]at this;exact this
  ·rw[World.frozen?_setCells]
   exact h0.2
 have AXC:∀(W:World),(∀x,W.cell? x=W1.cell? x)→(∀x,W.frozen? x=W1.frozen? x)→W.heap=W1.heap→ ∀ty dc,(Builtin.copy_ #[(ρ.t 24),(ρ.t 24)] ty #[.slice (some ⟨b,off+i*k,none⟩) (n+m-i) dc,.slice (some va) m vc]).run P W= .ok (goInt m) (W.setCells b (off+i*k) vs):=fun W hWc hWf re ty dc=>
  bA (n:=m) L.t24 uD (by simp only[Nat.min_def];split<;>omega) (fun V hV=>by subst hV;rw[hk];exact V6 _ (by rw[re];exact AXE)) (fun j hj=>⟨by rw[hWc];exact(AOH j hj).1,by rw[hWf];exact(AOH j hj).2⟩) h1v
 rw[←hW1]at AUi;obtain⟨vab,vao,vas⟩:=va;clear hmul ADR FW hnm him nX AOH vh zu
 go_enter L.f22,Body2.n22_ntmps ρ
 go_wp2_with (simp only[hov])
 go_region_law_o (refine step_copy_runI rfl _ _ (ρ.t 24) (ρ.t 24) rfl _ _ (by simp[Act.eval,Act.put]) (by simp[Act.eval,Act.put]) (AUi _ _ _) ?_)
 go_wp2_with (at_builtin;refine wpList_copy_runI _ rfl _ _ (ρ.t 24) (ρ.t 24) rfl _ _ rfl rfl (AXC _ (fun _=>rfl) (fun _=>rfl) rfl _ _) ?_)
 go_ret
 first|exact⟨rfl,_,rfl,⟨rfl,rfl,rfl,AP3 _⟩,rfl⟩|exact⟨rfl,w.drew,rfl,⟨rfl,rfl,rfl,AP3 _⟩,by first|rfl|rw[hW1]⟩
set_option maxHeartbeats 4000000 in
set_option maxRecDepth 100000 in
theorem ADS(L:cl P ρ nm fv){i0:TypeInfo}(uD:P.info? (ρ.t 9)=some i0)(b off n c:Nat)(va:Addr)(m vc:Nat)(vs:List Value)(w:World)(hm:0<m)(TH:n+m≤c)
  (nX:w.there b (off+n*i0.size) vs.length) (hn:kY P w i0.size m (.slice (some va) m vc) vs) (h1v:∀v∈vs,v.oneCell' =true):
  Calls P (ρ.f 22) #[.slice (some ⟨b,off,none⟩) n c,.int .i64 n,.slice (some va) m vc] w fun e w' =>
   e= .returned (.slice (some ⟨b,off,none⟩) (n+m) c)∧w' =w.setCells b (off+n*i0.size) vs:=by
 have t0:=L.t0;have a0:=L.a0;have z0:=L.z0;have v0:=L.v0;have t3:=L.t3;have a3:=L.a3;have z3:=L.z3;have v3:=L.v3;have t4:=L.t4;have a4:=L.a4;have z4:=L.z4;have v4:=L.v4;have t24:=L.t24;have a24:=L.a24;have z24:=L.z24;have v24:=L.v24;have u0:=run_underlying L.t0;have u3:=run_underlying L.t3;have u4:=run_underlying L.t4;have Ip:=run_underlying L.t24;have z9:∀w,(Go.sizeOf (ρ.t 9)).run P w= .ok i0.size w:=fun w=>by simp[sizeOf,typeInfo,uD]
 have mixed:=L.mixed;have hz1: ¬((m:Int)=0):=by omega
 have ko:∀ty,(Builtin.append_ #[(ρ.t 24),(ρ.t 24)] ty #[.slice (some ⟨b,off,none⟩) n c,.slice (some va) m vc]).run P w=_:=fun ty=>
  fV (ts:= #[(ρ.t 24),(ρ.t 24)]) (ty:=ty) rfl rfl L.t24 (.inl ⟨_,L.t24⟩) uD rfl hn TH nX h1v
 clear nX hn
 generalize hk:i0.size=k at*
 obtain⟨vab,vao,vas⟩:=va
 go_enter L.f22,Body2.n22_ntmps ρ
 go_wp2_with (at_builtin;refine Lib.wpList_append_run _ rfl _ _ (ρ.t 24) (ρ.t 24) rfl _ _ rfl rfl _ _ (ko _) ?_)
 go_ret
 exact⟨rfl,rfl⟩
set_option maxHeartbeats 4000000 in
set_option maxRecDepth 100000 in
theorem ABm(L:cl P ρ nm fv){i0:TypeInfo}{z:Value}(uD:P.info? (ρ.t 9)=some i0)(hz:i0.zero=some z)(hby:i0.bytes≤512)(ad:Option Addr)(n c:Nat)(va:Addr)(m vc:Nat)(cs vs:List Value)(w:World)(hm:0<m)(hnc:n≤c)(TH:c<n+m)(X9:n+m≤DF)
  (ho:∀w',w'.heap=w.heap→(Builtin.firstCells i0.size n (.slice ad n c)).run P w' = .ok cs.toArray w') (hn:kY P w i0.size m (.slice (some va) m vc) vs):
  Calls P (ρ.f 22) #[.slice ad n c,.int .i64 n,.slice (some va) m vc] w fun e w' =>
   e= .returned (.slice (some ⟨w.heap.size,0,none⟩) (n+m) (grownCap w (n+m) c (ρ.t 9)))∧
   w' =w.drew.alloc (.cells (cs.toArray++vs.toArray++Builtin.zeroCells z.cells (grownCap w (n+m) c (ρ.t 9)-(n+m))) (ρ.t 9)):=by
 have t0:=L.t0;have a0:=L.a0;have z0:=L.z0;have v0:=L.v0;have t3:=L.t3;have a3:=L.a3;have z3:=L.z3;have v3:=L.v3;have t4:=L.t4;have a4:=L.a4;have z4:=L.z4;have v4:=L.v4;have t24:=L.t24;have a24:=L.a24;have z24:=L.z24;have v24:=L.v24;have u0:=run_underlying L.t0;have u3:=run_underlying L.t3;have u4:=run_underlying L.t4;have Ip:=run_underlying L.t24;have z9:∀w,(Go.sizeOf (ρ.t 9)).run P w= .ok i0.size w:=fun w=>by simp[sizeOf,typeInfo,uD]
 have mixed:=L.mixed;have hz1: ¬((m:Int)=0):=by omega
 have ko:∀ty,(Builtin.append_ #[(ρ.t 24),(ρ.t 24)] ty #[.slice ad n c,.slice (some va) m vc]).run P w=_:=fun ty=>
  bw (ts:= #[(ρ.t 24),(ρ.t 24)]) (ty:=ty) rfl rfl L.t24 (.inl ⟨_,L.t24⟩) uD hz rfl ho hn TH X9 hby
 clear hn ho
 obtain⟨W1,hW1⟩:∃W1,W1=w.drew.alloc (.cells (cs.toArray++vs.toArray++Builtin.zeroCells z.cells (grownCap w (n+m) c (ρ.t 9)-(n+m))) (ρ.t 9)):=⟨_,rfl⟩;rw[←hW1]at ko⊢;clear hW1
 generalize hk:i0.size=k at*
 obtain⟨vab,vao,vas⟩:=va
 go_enter L.f22,Body2.n22_ntmps ρ
 cases ad with
 |none=>
  go_wp2_with (at_builtin;refine Lib.wpList_append_run _ rfl _ _ (ρ.t 24) (ρ.t 24) rfl _ _ rfl rfl _ _ (ko _) ?_)
  all_goals (go_ret;exact⟨rfl,rfl⟩)
 |some a=>
  obtain⟨ab,ao,asp⟩:=a
  go_wp2_with (at_builtin;refine Lib.wpList_append_run _ rfl _ _ (ρ.t 24) (ρ.t 24) rfl _ _ rfl rfl _ _ (ko _) ?_)
  all_goals (go_ret;exact⟨rfl,rfl⟩)
set_option maxHeartbeats 4000000 in
set_option maxRecDepth 100000 in
theorem AFK(L:cl P ρ nm fv){i0:TypeInfo}{z:Value}(uD:P.info? (ρ.t 9)=some i0)(hz:i0.zero=some z)(hzl:z.cells.size=i0.size)(hs0:0<i0.size)(hby:i0.bytes≤512)(b off n c i:Nat)(va:Addr)(m vc:Nat)(cs vs:List Value)(w:World)(hi:i<n)(hm:0<m)(hnc:n≤c)(TH:c<n+m)(X9:n+m≤DF)
  (ZF:cs.length=n*i0.size) (hvl:vs.length=m*i0.size) (pM:b<w.heap.size) (vh:Bb w b off cs) (hvw:va.block<w.heap.size)
  (V6:∀W:World,W.heap[va.block]? =w.heap[va.block]?→(Builtin.firstCells i0.size m (.slice (some va) m vc)).run P W= .ok vs.toArray W) (h1c:∀v∈cs,v.oneCell' =true) (h1v:∀v∈vs,v.oneCell' =true):
  Calls P (ρ.f 22) #[.slice (some ⟨b,off,none⟩) n c,.int .i64 i,.slice (some va) m vc] w fun e w' =>
   e= .returned (.slice (some ⟨w.heap.size,0,none⟩) (n+m) (grownCap w (n+m) c (ρ.t 9)))∧
   ∃W:World,W.heap=w.heap.push (.cells ((cs.take (i*i0.size)).toArray++Builtin.zeroCells z.cells (n+m-i)++Builtin.zeroCells z.cells (grownCap w (n+m) c (ρ.t 9)-(n+m))) (ρ.t 9))∧W.os=w.os∧W.tape=w.tape∧W.output=w.output∧
    w' =(W.setCells w.heap.size (i*i0.size) vs).setCells w.heap.size ((i+m)*i0.size) (cs.drop (i*i0.size)):=by
 have t0:=L.t0;have a0:=L.a0;have z0:=L.z0;have v0:=L.v0;have t3:=L.t3;have a3:=L.a3;have z3:=L.z3;have v3:=L.v3;have t4:=L.t4;have a4:=L.a4;have z4:=L.z4;have v4:=L.v4;have t24:=L.t24;have a24:=L.a24;have z24:=L.z24;have v24:=L.v24;have u0:=run_underlying L.t0;have u3:=run_underlying L.t3;have u4:=run_underlying L.t4;have Ip:=run_underlying L.t24;have z9:∀w,(Go.sizeOf (ρ.t 9)).run P w= .ok i0.size w:=fun w=>by simp[sizeOf,typeInfo,uD]
 have mixed:=L.mixed;have AEE:=X9;simp only[DF]at AEE;have hz1: ¬((m:Int)=0):=by omega
 have hz2: ¬((i:Int)=(n:Int)):=by omega
 have hz3:(c:Int)<(n:Int)+(m:Int):=by omega
 have hkk:(n:Int)+(m:Int)-(i:Int)=((n+m-i:Nat):Int):=by omega
 have hik:i+(n+m-i)=n+m:=by omega
 have ADR:i*i0.size≤n*i0.size:=AQY _ (by omega);have hnm:(n+m)*i0.size=n*i0.size+m*i0.size:=ARz ..;have him:(i+m)*i0.size=i*i0.size+m*i0.size:=ARz ..;have hni:(n-i)*i0.size=n*i0.size-i*i0.size:=ATz ..;have hold:(Builtin.firstCells i0.size i (.slice (some ⟨b,off,none⟩) i c)).run P w.drew= .ok (cs.take (i*i0.size)).toArray w.drew:=by
  simp only[Builtin.firstCells];have hl:(cs.take (i*i0.size)).length=i*i0.size:=by rw[AUB];omega
  have hca:Bb w.drew b off (cs.take (i*i0.size)):=fun j v hj=>by
   rw[AUd]at hj;split at hj
   ·exact vh j v hj
   ·cases hj
  conv=>lhs;rw[←hl]
  exact MQ hca
 have ASW:(n+m)*i0.bytes≤140737488355328:=by
  have:(n+m)*i0.bytes≤DF*512:=Nat.mul_le_mul X9 hby;simp only[DF]at this;omega
 have ALx:(n+m-i)*i0.bytes≤281474976710656:=by
  have:(n+m-i)*i0.bytes≤(n+m)*i0.bytes:=AQY _ (by omega);omega
 have hrz:∀ty,(Builtin.append_ #[(ρ.t 24),(ρ.t 3)] ty #[.slice (some ⟨b,off,none⟩) i c,.int .i64 ((n:Int)+(m:Int)-(i:Int))]).run P w=
   .ok (.slice (some ⟨w.heap.size,0,none⟩) (n+m) (grownCap w (n+m) c (ρ.t 9))) (w.drew.alloc (.cells ((cs.take (i*i0.size)).toArray++Builtin.zeroCells z.cells (n+m-i)++Builtin.zeroCells z.cells (grownCap w (n+m) c (ρ.t 9)-(n+m))) (ρ.t 9))):=fun ty=>by
  have h:=Lib.run_append_grow_zeros w (ρ.t 24) (ρ.t 3) ty (ρ.t 9) i0 z .i64 .i64 L.t24 L.t3 uD hz (some ⟨b,off,none⟩) i c (cs.take (i*i0.size)) hold (n+m-i) (by omega) hs0 (by omega) (by omega) ALx (by rw[hik];exact growslice_fits TH ASW);rw[hik]at h;rw[hkk];exact h
 have hGn:n+m≤grownCap w (n+m) c (ρ.t 9):=grownCap_ge w _ _ _;have AZi:grownCap w (n+m) c (ρ.t 9)≤9223372036854775807:=by
  have:=grownCap_le_maxLen w (n+m) c (ρ.t 9) (by unfold maxLen;omega);unfold maxLen at this;omega
 obtain⟨G,hG⟩:∃G,G=grownCap w (n+m) c (ρ.t 9):=⟨_,rfl⟩;rw[←hG]at hrz hGn AZi⊢;obtain⟨ROW,ABL⟩:∃ROW:Array Value,ROW=(cs.take (i*i0.size)).toArray++Builtin.zeroCells z.cells (n+m-i)++Builtin.zeroCells z.cells (G-(n+m)):=⟨_,rfl⟩;rw[←ABL]at hrz⊢;have hRl:(n+m)*i0.size≤ROW.size:=by
  rw[ABL];simp only[AWO,AWP,size_zeroCells,hzl,AUB];have e1:(n+m-i)*i0.size=(n+m)*i0.size-i*i0.size:=ATz ..;omega
 obtain⟨W1,hW1⟩:∃W1,W1=w.drew.alloc (.cells ROW (ρ.t 9)):=⟨_,rfl⟩;rw[←hW1]at hrz;have AT1:W1.heap[w.heap.size]? =some (.cells ROW (ρ.t 9)):=by
  rw[hW1]
  show(w.heap.push (.cells ROW (ρ.t 9)))[w.heap.size]? =_
  simp
 have ADr:∀x,x<w.heap.size→W1.heap[x]? =w.heap[x]?:=fun x hx=>by rw[hW1];exact I4 hx
 have hN:∀o l,o+l≤(n+m)*i0.size→W1.there w.heap.size o l:=fun o l h=>U6 (k:=1) AT1 (by omega) (Wt _)
 have zu:(cs.drop (i*i0.size)).length=(n-i)*i0.size:=by rw[AT7,ZF,hni]
 have AZV:∀(W:World),(∀x,W.cell? x=W1.cell? x)→(∀x,W.frozen? x=W1.frozen? x)→W.heap=W1.heap→ ∀ty dc,(Builtin.copy_ #[(ρ.t 24),(ρ.t 24)] ty #[.slice (some ⟨w.heap.size,i*i0.size,none⟩) (n+m-i) dc,.slice (some va) m vc]).run P W= .ok (goInt m) (W.setCells w.heap.size (i*i0.size) vs):=fun W hWc hWf re ty dc=>
  bA (n:=m) L.t24 uD (by simp only[Nat.min_def];split<;>omega) (fun V hV=>by subst hV;exact V6 _ (by rw[re];exact ADr _ hvw)) (fun j hj=>by
   have:=hN (i*i0.size) (m*i0.size) (by omega) j (by omega);exact⟨by rw[hWc];exact this.1,by rw[hWf];exact this.2⟩) h1v
 have AS2:∀(W:World),(∀x,W.cell? x=(W1.setCells w.heap.size (i*i0.size) vs).cell? x)→(∀x,W.frozen? x=(W1.setCells w.heap.size (i*i0.size) vs).frozen? x)→W.heap=(W1.setCells w.heap.size (i*i0.size) vs).heap→ ∀ty dc sc,(Builtin.copy_ #[(ρ.t 24),(ρ.t 24)] ty #[.slice (some ⟨w.heap.size,(i+m)*i0.size,none⟩) (n+m-(i+m)) dc,.slice (some ⟨b,off+i*i0.size,none⟩) (n-i) sc]).run P W= .ok (goInt (n-i:Nat)) (W.setCells w.heap.size ((i+m)*i0.size) (cs.drop (i*i0.size))):=fun W hWc hWf re ty dc sc=>
  bA (n:=n-i) L.t24 uD (by simp only[Nat.min_def];split<;>omega) (fun V hV=>by
   subst hV;simp only[Builtin.firstCells];rw[←zu];refine MQ fun j v hj=> ?_
   rw[ATQ]at hj;have h3:=vh _ v hj;rw[←ASG]at h3;rw[←h3];refine World.cell?_of_block (a:=⟨b,off+i*i0.size+j,none⟩) ?_
   rw[re,DQ _ _ _ _ _ (show b≠w.heap.size by omega)];exact ADr b pM) (fun j hj=>by
   have hb:W1.there w.heap.size ((i+m)*i0.size) (cs.drop (i*i0.size)).length:=hN _ _ (by omega);refine⟨?_,?_⟩
   ·rw[hWc]
    exact isSome_setCells _ _ _ _ (fun t ht=>(hN (i*i0.size) vs.length (by omega) t ht).1) _ (hb j hj).1
   ·rw[hWf,World.frozen?_setCells]
    exact(hb j hj).2) (fun v hv=>h1c v (ATh hv))
 generalize hk:i0.size=k at*
 have hE1:∀x,((w.alloc (.cells ROW (ρ.t 9))).drew).cell? x=W1.cell? x:=fun x=>by rw[hW1];rfl
 have hE2:∀x,((w.alloc (.cells ROW (ρ.t 9))).drew).frozen? x=W1.frozen? x:=fun x=>by rw[hW1];rfl
 have hE3:((w.alloc (.cells ROW (ρ.t 9))).drew).heap=W1.heap:=by rw[hW1];rfl
 have hF1:∀x,(((w.alloc (.cells ROW (ρ.t 9))).drew.setCells w.heap.size (i*k) vs).drew).cell? x=(W1.setCells w.heap.size (i*k) vs).cell? x:=fun x=>by rw[hW1];rfl
 have hF2:∀x,(((w.alloc (.cells ROW (ρ.t 9))).drew.setCells w.heap.size (i*k) vs).drew).frozen? x=(W1.setCells w.heap.size (i*k) vs).frozen? x:=fun x=>by rw[hW1];rfl
 have hF3:(((w.alloc (.cells ROW (ρ.t 9))).drew.setCells w.heap.size (i*k) vs).drew).heap=(W1.setCells w.heap.size (i*k) vs).heap:=by rw[hW1];rfl
 have hw1:IntKind.i64.wrap ((i:Int)+(m:Int))=(i:Int)+(m:Int):=by rw[IntKind.wrap_i64];omega
 have hb1:(0:Int)≤(i:Int)+(m:Int):=by omega
 have UI:i≤n:=by omega
 have htn:((i:Int)+(m:Int)).toNat=i+m:=by omega
 have hb3:(i:Int)≤(n:Int):=by omega
 have hGi: ¬(G=i):=by omega
 have AdJ: ¬(G=i+m):=by omega
 have hci: ¬(c=i):=by omega
 subst hW1;clear hkk hik hold ABL hG hRl ADR hnm him hni zu hN vh V6 AT1 ADr ASW ALx;obtain⟨vab,vao,vas⟩:=va
 go_enter L.f22,Body2.n22_ntmps ρ
 go_wp2_with (first
  |(at_builtin;refine Lib.wpList_append_run _ rfl _ _ _ _ rfl _ _ rfl rfl _ _ (hrz _) ?_)
  |(at_builtin;refine wpList_copy_runI _ rfl _ _ (ρ.t 24) (ρ.t 24) rfl _ _ rfl rfl (AZV _ hE1 hE2 hE3 _ _) ?_)
  |(at_builtin;refine wpList_copy_runI _ rfl _ _ (ρ.t 24) (ρ.t 24) rfl _ _ rfl rfl (AS2 _ (fun _=>rfl) (fun _=>rfl) rfl _ _ _) ?_))
 go_region_law_o (refine step_copy_runI rfl _ _ (ρ.t 24) (ρ.t 24) rfl (.slice (some ⟨w.heap.size,(i+m)*k,none⟩) (n+m-(i+m)) (G-(i+m))) (.slice (some ⟨b,off+i*k,none⟩) (n-i) (c-i)) (by simp[Act.eval,Act.put]) (by simp[Act.eval,Act.put]) (AS2 _ hF1 hF2 hF3 (ρ.t 3) (G-(i+m)) (c-i)) ?_)
 go_wp2
 go_ret
 refine⟨rfl,((w.alloc (.cells ROW (ρ.t 9))).drew).drew,rfl,rfl,rfl,rfl,?_⟩;rw[drew_setCells]
end
end Go.Fw
end
section
namespace Go.Fw
open Go.Proofs Go.Shelf Go.RowKit Go.Lib
def Flat(w:World)(r:Ty)(css:List (List Value))(rows:List r.D):Prop:=
 css.length=rows.length∧(∀c∈css,c.length=r.n)∧ ∀(i:Nat) cs y,css[i]? =some cs→rows[i]? =some y→Rd w (fun _=>False) r cs y
theorem Flat.to{w w':World}{r:Ty}(hf:r.flat=true){css:List (List Value)}{rows:List r.D}(h:Flat w r css rows):Flat w' r css rows:=
 ⟨h.1,h.2.1,fun i cs y a b=>eR hf (h.2.2 i cs y a b)⟩
theorem Flat.take{w:World}{r:Ty}{css:List (List Value)}{rows:List r.D}(h:Flat w r css rows)(n:Nat):Flat w r (css.take n) (rows.take n):=by
 refine⟨by simp[h.1],fun c hc=>h.2.1 c (AVc hc),fun i cs y a b=> ?_⟩;rw[AUd]at a b;split at a
 ·rename_i hi
  rw[AME hi]at b;exact h.2.2 i cs y a b
 simp_all
theorem Flat.drop{w:World}{r:Ty}{css:List (List Value)}{rows:List r.D}(h:Flat w r css rows)(n:Nat):Flat w r (css.drop n) (rows.drop n):=by
 refine⟨by simp[h.1],fun c hc=>h.2.1 c (ATh hc),fun i cs y a b=> ?_⟩;rw[ATQ]at a b;exact h.2.2 _ cs y a b
theorem Flat.append{w:World}{r:Ty}{css rl:List (List Value)}{rows AV1:List r.D}(h:Flat w r css rows)(k:Flat w r rl AV1):Flat w r (css++rl) (rows++AV1):=by
 refine⟨by simp[h.1,k.1],fun c hc=>(APr.1 hc).elim (h.2.1 c) (k.2.1 c),fun i cs y a b=> ?_⟩;by_cases hi:i<rows.length
 ·rw[AQS (by rw[h.1];omega)]at a
  rw[AQS hi]at b;exact h.2.2 i cs y a b
 ·rw[AQm (by rw[h.1];omega)]at a
  rw[AQm (by omega)]at b;rw[h.1]at a;exact k.2.2 _ cs y a b
theorem Flat.one{w:World}{r:Ty}(hf:r.flat=true){css:List (List Value)}{rows:List r.D}(h:Flat w r css rows):∀v∈css.flatten,v.oneCell' =true:=by
 intro v hv;obtain⟨c,hc,hv⟩:=ARc.1 hv;obtain⟨i,hi,rfl⟩:=ARg hc;have h1:=h.1;exact jx (jJ (S:=fun _=>False) (d:=0) hf (h.2.2 i _ _ (AMJ hi) (AMJ (by omega)))) v hv
theorem Flat.at{w:World}{S:Nat→Prop}{d:Nat}{r:Ty}(hf:r.flat=true){css:List (List Value)}{rows:List r.D}(h:Flat w r css rows):FL w S d r css rows (List.replicate rows.length []):=FL.flat hf h.1 h.2.1 h.2.2
theorem AJ4{w:World}{S:Nat→Prop}{r:Ty}(hf:r.flat=true){css:List (List Value)}{rows:List r.D}{Fs:List ABH}{d:Nat}(h:FL w S d r css rows Fs):Flat w r css rows:=by
 refine⟨h.1,h.2.2.1,fun i cs y a b=> ?_⟩;have hi:=(AMX.1 b).1;have h2:=h.2.1;exact eR hf (Xr (h.2.2.2 i cs y (Fs[i]'(by omega)) a b (AMJ _)))
theorem Flat.rU{w:World}{r:Ty}{css:List (List Value)}{rows:List r.D}(h:Flat w r css rows)(n:Nat)(hn:n≤rows.length):css.flatten.take (n*r.n)=(css.take n).flatten:=by
 have h1:((css.take n).flatten).length=n*r.n:=by
  rw[IB (n:=r.n) (fun c hc=>h.2.1 c (AVc hc)),AUB,h.1,Nat.min_eq_left hn]
 grind[List.take_append_drop,List.flatten_append,List.take_of_length_le]
theorem Flat.rW{w:World}{r:Ty}{css:List (List Value)}{rows:List r.D}(h:Flat w r css rows)(n:Nat)(hn:n≤rows.length):css.flatten.drop (n*r.n)=(css.drop n).flatten:=by
 have h1:((css.take n).flatten).length=n*r.n:=by
  rw[IB (n:=r.n) (fun c hc=>h.2.1 c (AVc hc)),AUB,h.1,Nat.min_eq_left hn]
 grind[List.take_append_drop,List.flatten_append,List.drop_eq_nil_of_le]
theorem jA{w:World}{S:Nat→Prop}{d b o cap:Nat}{r:Ty}{rows:List r.D}{css:List (List Value)}{Fs:List ABH}{arr:Array Value}{ty:TypeId}{fr:ABg}(h:FL w S d r css rows Fs)(hb:w.heap[b]? =some (.cells arr ty fr))
  (hc:Bb w b o css.flatten) (xq:rows.length≤cap) (Pe:o+cap*r.n≤arr.size) (hu:uX fr (arr.size+mk r)):Ow w S (d+1) (.sl r) [.slice (some ⟨b,o,none⟩) rows.length cap] rows (b::Fs.flatten):=by
 simp only[Ow];refine⟨_,cap,rfl,xq,.inr ⟨b,o,arr,ty,fr,Fs,rfl,hb,Pe,hu,rfl,h.2.1,fun j q G hq hG=> ?_⟩⟩;have hj:=(AMX.1 hq).1;have h1:=h.1;have wT:j<css.length:=by omega
 refine⟨css[j],h.2.2.1 _ (AM3 _),fun x u hx=> ?_,h.2.2.2 j _ _ _ (AMJ wT) hq hG⟩;have hxl:=(AMX.1 hx).1;rw[h.2.2.1 _ (AM3 _)]at hxl;have:=Yb (n:=r.n) (css:=css) (ex:=[]) (i:=j) h.2.2.1 (AMJ wT) hxl;rw[AN8,hx]at this;have:=hc _ _ this;grind
theorem lh{w:World}{b o:Nat}{A V B:List Value}{arr:Array Value}{ty:TypeId}{fr:ABg}(hb:w.heap[b]? =some (.cells arr ty fr))(hs:o+(A.length+V.length)+B.length≤arr.size)(hA:Bb w b o A):
  ∃Kf,((w.setCells b (o+(A.length+V.length)) B).setCells b (o+A.length) V).heap[b]? =some (.cells Kf ty fr)∧Kf.size=arr.size∧Bb ((w.setCells b (o+(A.length+V.length)) B).setCells b (o+A.length) V) b o (A++V++B):=by
 have h1:=Ff B (o+(A.length+V.length)) w b arr ty fr hb;have z1:(FK arr (o+(A.length+V.length)) B).size=arr.size:=Fg ..;have h2:=Ff V (o+A.length) _ b _ ty fr h1;grind[Ol,Fg,Bb.append,UR,List.length_append]
theorem hO{w:World}{b o:Nat}{A V B:List Value}{arr:Array Value}{ty:TypeId}{fr:ABg}(hb:w.heap[b]? =some (.cells arr ty fr))(hs:o+(A.length+V.length)+B.length≤arr.size)(hA:Bb w b o A):
  ∃Kf,((w.setCells b (o+A.length) V).setCells b (o+(A.length+V.length)) B).heap[b]? =some (.cells Kf ty fr)∧Kf.size=arr.size∧Bb ((w.setCells b (o+A.length) V).setCells b (o+(A.length+V.length)) B) b o (A++V++B):=by
 have h1:=Ff V (o+A.length) w b arr ty fr hb;have z1:(FK arr (o+A.length) V).size=arr.size:=Fg ..;have h2:=Ff B (o+(A.length+V.length)) _ b _ ty fr h1;grind[Ol,Fg,Bb.append,UR,List.length_append]
@[reducible] def rj (r:Ty):BE:=⟨[(0,.c (.ref 0)),(1,.c (.v (.int .i64))),(2,.c (.sl false r))],[.sl 1 r]⟩
@[reducible] def xe (r:Ty):BE:=⟨[(0,.c (.ref 1))],[.gone,.sl 1 r]⟩
theorem zT{P:Program}{f:Nat}{args:Array Value}{E:Env}{w:World}{r:Ty}{d:Nat}(hd:1≤d){F:ABH}(hS:Sep E w F){l:List r.D}{Q:Ending→World→Prop}
  (h:Calls P f args w Q) (hq:∀e w',Q e w'→ ∃v F',e= .returned v∧isSlice v=true∧Ow w' E.S d (.sl r) [v] l F'∧F'.Nodup∧(∀c∈F',¬E.T c∧c<w'.heap.size)∧(∀c,E.T c→w'.heap[c]? =w.heap[c]?)∧Grown w w'):
  Calls P f args w fun e w' => ∃x E',e= .returned x∧dA E w E' w'∧C7 E' w' [.dead,.sl d r l] [.dead,.sl d r l] []∧
   OS E' w' [.dead,.sl d r l] id [(0,.c (.ref 1))] ((),()) [x]∧ ∀i,i<1→alive [.gone,.sl d r] i=true→E'.ID i=E.ID i∧E'.IE i=E.IE i:=by
 refine h.mono fun e w' hh=> ?_
 obtain⟨v,F',rfl,hv,ho,nd,hfr,hT,hg⟩:=hq e w' hh
 let E':Env:={ E with IE:=fun n=>if n=1 then v else E.IE n }
 refine⟨v,E',rfl,⟨fun _ h=>h,fun _ h=>h,fun _ h=> .inl h,fun _ h=> .inl h,hT,hg.os,hg.tape,hg.output,hg.size⟩,⟨[[],F'],⟨rfl,fun k B F hB hF=> ?_⟩,?_⟩,?_,fun i hi ha=> ?_⟩
 ·match k with
  |0=>
   simp at hB hF;subst hB hF;rfl
  |1=>
   simp at hB hF;subst hB hF;exact⟨hd,ho⟩
  |k+2=>simp_all
 ·refine⟨by simp_all,fun c hc=>(hfr c (by simp_all)).1,fun c hc=>(hfr c (by simp_all)).2,hS.st,fun c hc=>ARl (hS.cf c hc) hg.size⟩
 ·refine⟨⟨v,rfl,?_⟩,trivial⟩
  refine⟨hv,?_⟩
  show DG r l []∧(∃q,HE r l []=some q)∧JB w' (E'.IE 1) []=some v
  refine⟨trivial,⟨_,rfl⟩,?_⟩;rfl
 grind
end Go.Fw
end
section
namespace Go.Fw
open Go.M Go.Proofs Go.Shelf Go.RowKit Go.Lib
theorem vT{w:World}{b:Nat}{arr:Array Value}{ty:TypeId}{fr:ABg}(h:w.heap[b]? =some (.cells arr ty fr)):w.shape? b=some (ty,arr.size):=by
 simp[World.shape?,h]
theorem ACb{w:World}{b o:Nat}{v:Value}(h:w.cell? ⟨b,o,none⟩=some v):∃arr ty fr,w.heap[b]? =some (.cells arr ty fr)∧o<arr.size:=by
 unfold World.cell? at h;grind
theorem Grown.trans'{w w' w'':World}(h:Grown w w')(k:Grown w' w''):Grown w w'':=⟨k.os.trans h.os,k.tape.trans h.tape,k.output.trans h.output,ARV h.size k.size⟩
theorem sQ{P:Program}{T:J0}{ρ:Ren}{nm:String}{fv:Func}(hT:Ei P T)(L:cl P ρ nm fv){r:Ty}(Us:T.Nl (ρ.t 24) r=true)(hf:r.flat=true)(Zf:mk r=1)(hn0:0<r.n):
  W0 P (ρ.f 22) ⟨rj r,xe r,fun v=>(uo v.1.2.1 v.1.2.2.1 v.2.1).map fun l=>(((),()),((),l,()))⟩:=by
 refine⟨by simp[QB.ok,kinds,j9,AP.ML,XP.ML,BP.ML],W6 L.f22 L.n22 (by kernel_rfl),?_⟩;intro E w v args u AV0 hB hS hg;obtain⟨⟨u0,p,vs,u1⟩,rows,u2⟩:=v;obtain⟨⟨⟨⟩,⟨⟩⟩,⟨⟩,l,⟨⟩⟩:=u;simp only[AMU]at hg;obtain⟨l',i_,hg⟩:=hg;simp only[ARK,true_and,ARx]at hg;subst hg;unfold uo at i_;split at i_
 case isFalse=>cases i_
 rename_i hc;obtain⟨hp0,hp1,X9⟩:=hc;obtain⟨p,rfl⟩:=AV2 hp0;simp only[ANW,AMO]at i_;have hpn:p≤rows.length:=by omega
 obtain⟨⟨a0,h0,x0⟩,⟨a1,h1,x1⟩,⟨a2,h2,x2⟩,_⟩:=hS;have Ie:args= #[a0,a1,a2]:=by
  have hl3:args.toList.length=3:=AV0;apply Array.ext'
  match hq:args.toList,hl3 with
  |[b0,b1,b2],_=>
   rw[hq]at h0 h1 h2;simp at h0 h1 h2;simp[h0,h1,h2]
 subst Ie;have e0:E.IE 0=a0:=by
  have:VR E w [Bx.sl 1 r rows] (.ref 0 []) a0:=x0;simp only[VR]at this;obtain⟨_,_,_,h⟩:=this;rw[DB]at h;exact AWK h
 have e1:a1= .int .i64 (p:Int):=by
  have:VR E w [Bx.sl 1 r rows] (.v (.int .i64) (p:Int)) a1:=x1;simp only[VR,Rd,ARF,ARx]at this;exact this.2
 have e2:Rd w E.T (.sl r) [a2] vs:=by
  have:VR E w [Bx.sl 1 r rows] (.sl false r vs) a2:=x2;simp only[VR]at this;simpa using this
 subst e1;obtain⟨Fs,⟨hFl,hFb⟩,hSep⟩:=hB;obtain⟨F,rfl⟩:∃F,Fs=[F]:=by
  match Fs,hFl with
  |[F],_=>exact⟨F,rfl⟩
 have ADN:=hFb 0 (.sl 1 r rows) F rfl rfl;obtain⟨_,ho⟩:=ADN;rw[e0]at ho;simp only[ASK,AT0,AN8]at hSep;have ho0:=ho;obtain⟨ad,cap,css,Fs1,R1,rfl,hle,hd,hp1',hcase⟩:=nB ho;have vY:=AJ4 hf hd;obtain⟨e,ti,hut,VC,hs1,hby,hrow⟩:=Kp hT Us;obtain⟨i0,z,i1,i2,i3,i4,i5,lr⟩:=Wp hT VC hrow;have he:e=ρ.t 9:=by
  have:=L.t24.symm.trans hut;simp at this;exact this.symm
 subst he;rw[hs1]at i2;have z9:∀w,(Go.sizeOf (ρ.t 9)).run P w= .ok r.n w:=fun w=>by simp[sizeOf,typeInfo,i1,i2]
 have hzl:z.cells.size=r.n:=by rw[←ATy,i5,Gz]
 have e2':=e2;simp only[Rd]at e2;obtain⟨va,vc,aS,hvle,hvr⟩:=e2;simp only[ARF,ARx]at aS;subst aS;have fin:∀{Q:Ending→World→Prop},Calls P (ρ.f 22) #[.slice ad rows.length cap,.int .i64 (p:Int),.slice va vs.length vc] w Q→
   (∀e w',Q e w'→ ∃v F',e= .returned v∧isSlice v=true∧Ow w' E.S 1 (.sl r) [v] l' F'∧F'.Nodup∧(∀c∈F',¬E.T c∧c<w'.heap.size)∧(∀c,E.T c→w'.heap[c]? =w.heap[c]?)∧Grown w w')→_:=fun h hq=>zT (AP3 1) hSep h hq
 have lQ:∀n:Nat,(List.replicate n ([]:ABH)).flatten=[]:=fun n=>by simp
 by_cases hm0:vs.length=0
 ·
  have AY8:vs=[]:=ARH hm0;subst AY8;have hl:rows=l':=by rw[←i_,AN8,AVG]
  subst hl;refine fin (ACh (k:=r.n) L z9 ad rows.length cap p va vc w hpn hle) fun e w' h=> ?_
  obtain⟨rfl,rfl⟩:=h;exact⟨_,F,rfl,rfl,ho0,hSep.nodup,fun c hc=>⟨hSep.free c hc,hSep.lt c hc⟩,fun _ _=>rfl,⟨rfl,rfl,rfl,AP3 _⟩⟩
 have hm:0<vs.length:=by omega
 rcases hvr with hvr|⟨vb,vo,rfl,hvT,hvr⟩
 ·exact absurd hvr hm0
 obtain⟨rl,c1,c2,c3,c4⟩:=ou hvr;have Yj:Flat w r rl vs:=⟨c1,c2,fun i cs y a b=>eR hf (c4 i cs y a b)⟩;have xO:rl.flatten.length=vs.length*r.n:=by rw[IB c2,c1]
 have xT:css.flatten.length=rows.length*r.n:=by rw[IB hd.2.2.1,hd.1]
 have AS_:0<rl.flatten.length:=by rw[xO];exact Nat.mul_pos hm hn0
 obtain⟨arrv,tyv,frv,hbv,hov⟩:=ACb (c3 0 _ (AMJ AS_));have AZO:vb<w.heap.size:=by
  by_cases hh:vb<w.heap.size
  ·exact hh
  ·rw[Array.getElem?_eq_none (by omega)]at hbv;cases hbv
 have lg:kY P w r.n vs.length (.slice (some ⟨vb,vo,none⟩) vs.length vc) rl.flatten:=Qy c1 c2 (.inr ⟨vb,vo,rfl,c3⟩);have AS7:∀W:World,W.heap[vb]? =w.heap[vb]?→(Builtin.firstCells r.n vs.length (.slice (some ⟨vb,vo,none⟩) vs.length vc)).run P W= .ok rl.flatten.toArray W:=fun W hW=>by
  simp only[Builtin.firstCells];rw[←xO];exact MQ (c3.of_block hW)
 have AL7:=vY.one hf;have AB5:=Yj.one hf;by_cases TH:rows.length+vs.length≤cap
 ·rcases hcase with⟨h0,_⟩|⟨b,o,arr,ty,fr,rfl,hb,Pe,hu,rfl,th⟩
  ·omega
  have hbT: ¬E.T b:=hSep.free b (by simp);have ACQ:b<w.heap.size:=hSep.lt b (by simp);have ax:vb≠b:=fun e=>hbT (e▸hvT)
  have AbU:(rows.length+vs.length)*r.n≤cap*r.n:=AQY _ TH;have hnm:(rows.length+vs.length)*r.n=rows.length*r.n+vs.length*r.n:=ARz ..;by_cases hpe:p=rows.length
  ·subst hpe
   have hl:rows++vs=l':=by rw[←i_,AWU,AR2,AN8]
   subst hl;have ig:=ADS (ρ:=ρ) L (i0:=i0) i1 b o rows.length cap ⟨vb,vo,none⟩ vs.length vc rl.flatten w hm TH (by rw[i2];exact U6 (k:=mk r) hb (by omega) hu) (by rw[i2];exact lg) AB5;refine fin ig fun e w' h=> ?_
   obtain⟨rfl,rfl⟩:=h;obtain⟨Kf,q1,q2,q3⟩:=lh (B:=[]) (V:=rl.flatten) hb (by simp only[APv];omega) th;rw[xT,←i2]at q1 q3;simp only[World.setCells,AN8]at q1 q3;have wa:=(vY.append Yj).to (w':=w.setCells b (o+rows.length*i0.size) rl.flatten) hf;refine⟨_,b::(List.replicate (rows++vs).length ([]:ABH)).flatten,rfl,rfl,?_,?_,?_,fun c hc=>DQ _ _ _ _ _ (fun e=>hbT (e▸hc)),CA _ _ _ _⟩
   ·have:=jA (cap:=cap) (wa.at (S:=E.S) (d:=0) hf) q1 (by rw[ASB];exact q3) (by rw[AOq];exact TH) (by rw[q2];exact Pe) (by rw[q2];exact hu)
    rw[lQ]at this⊢;rw[AOq]at this;exact this
   ·simp
   ·intro c hc
    rw[lQ]at hc;simp at hc;subst hc;exact⟨hbT,by rw[DY];exact ACQ⟩
  ·have FW:p<rows.length:=by omega
   have hpm:p*r.n≤rows.length*r.n:=AQY _ hpn;have ART:(p+vs.length)*r.n=p*r.n+vs.length*r.n:=ARz ..;have ig:=AAR (ρ:=ρ) L (i0:=i0) i1 (by rw[i2];exact hn0) b o rows.length cap p ⟨vb,vo,none⟩ vs.length vc css.flatten rl.flatten w FW hm TH X9 ax (by rw[i2];exact xT) (by rw[i2];exact xO) th
    (by rw[i2];exact U6 (k:=mk r) hb (by omega) hu) (by rw[i2];exact AS7) AL7 AB5 tyv ty arrv.size arr.size (vT hbv) (vT hb) (by omega) (by
     have:=hu arr.size (by omega);obtain⟨lo,hi⟩:=fr;simp only[World.frozen?,hb];simp at this⊢;omega)
   refine fin ig fun e w' h=> ?_
   obtain⟨rfl,W,re,hWg,rfl⟩:=h;have hA:(css.flatten.take (p*r.n)).length=p*r.n:=by rw[AUB];omega
   have hB:(css.flatten.drop (p*r.n)).length=rows.length*r.n-p*r.n:=by rw[AT7,xT]
   have hbW:W.heap[b]? =some (.cells arr ty fr):=by rw[re];exact hb
   have hcA:Bb W b o (css.flatten.take (p*r.n)):=Bb.heap (fun j v hj=>by
    rw[AUd]at hj;split at hj
    ·exact th j v hj
    ·cases hj) re
   obtain⟨Kf,q1,q2,q3⟩:=lh (B:=css.flatten.drop (p*r.n)) (V:=rl.flatten) hbW (by omega) hcA;rw[hA,xO,←ART,←i2]at q1 q3
   generalize qc:(W.setCells b (o+(p+vs.length)*i0.size) (css.flatten.drop (p*i0.size))).setCells b (o+p*i0.size) rl.flatten=w' at q1 q3
   have wa:=(((vY.take p).append Yj).append (vY.drop p)).to (w':=w') hf;rw[i_]at wa;have wb:l'.length=rows.length+vs.length:=by rw[←i_];simp;omega
   refine⟨_,b::(List.replicate l'.length ([]:ABH)).flatten,rfl,rfl,?_,?_,?_,fun c hc=> ?_,?_⟩
   ·have:=jA (cap:=cap) (wa.at (S:=E.S) (d:=0) hf) q1 (by
     rw[ASB,ASB,←vY.rU p hpn,←vY.rW p hpn,←i2];exact q3) (by rw[wb];exact TH) (by rw[q2];exact Pe) (by rw[q2];exact hu)
    rw[lQ]at this⊢;rw[wb]at this;exact this
   ·simp
   ·intro c hc
    rw[lQ]at hc;simp at hc;subst hc;refine⟨hbT,?_⟩;rw[←qc,DY,DY,re];exact ACQ
   ·have hcb:c≠b:=fun e=>hbT (e▸hc)
    rw[←qc,DQ _ _ _ _ _ hcb,DQ _ _ _ _ _ hcb,re]
   ·rw[←qc]
    exact Grown.trans' hWg (Grown.trans' (CA _ _ _ _) (CA _ _ _ _))
 ·have hgc:=grownCap_ge w (rows.length+vs.length) cap (ρ.t 9)
  by_cases hpe:p=rows.length
  ·subst hpe
   have hl:rows++vs=l':=by rw[←i_,AWU,AR2,AN8]
   subst hl;have hold:rows.length=0∨ ∃b o,ad=some ⟨b,o,none⟩∧Bb w b o css.flatten:=by
    rcases hcase with⟨h0,_⟩|⟨b,of,arr,ty0,fr,rfl,hb,Pe,hunf,rfl,hc⟩
    ·exact .inl (by omega)
    ·exact .inr ⟨b,of,rfl,hc⟩
   have ig:=ABm (ρ:=ρ) L (i0:=i0) (z:=z) i1 i4 (by omega) ad rows.length cap ⟨vb,vo,none⟩ vs.length vc css.flatten rl.flatten w hm hle (by omega) X9 (by rw[i2];exact fJ hd.1 hd.2.2.1 hold) (by rw[i2];exact lg);refine fin ig fun e w' h=> ?_
   obtain⟨rfl,rfl⟩:=h
   generalize grownCap w (rows.length+vs.length) cap (ρ.t 9)=gc at hgc⊢
   generalize cT:css.flatten.toArray++rl.flatten.toArray++Builtin.zeroCells z.cells (gc-(rows.length+vs.length))=arr
   have z_:arr.toList=(css++rl).flatten++(Builtin.zeroCells z.cells (gc-(rows.length+vs.length))).toList:=by rw[←cT];simp
   have AXn:arr.size=gc*r.n:=by
    rw[←cT];simp only[AWO,AWP,ZH,hzl,xO,xT,←ARz];congr 1;omega
   have new:(w.drew.alloc (.cells arr (ρ.t 9))).heap[w.heap.size]? =some (.cells arr (ρ.t 9)):=by
    show(w.heap.push (.cells arr (ρ.t 9)))[w.heap.size]? =_
    simp
   have wa:=(vY.append Yj).to (w':=w.drew.alloc (.cells arr (ρ.t 9))) hf;have hra:=wa.at (S:=E.S) (d:=0) hf;refine⟨_,w.heap.size::(List.replicate (rows++vs).length ([]:ABH)).flatten,rfl,rfl,?_,?_,?_,fun c hc=>I4 (hSep.cf c hc),⟨rfl,rfl,rfl,by show _≤(w.heap.push _).size;simp⟩⟩
   ·have:=ck (cap:=gc) new z_ hra.1 (by rw[AOq];exact hgc) (by omega) (Wt _) hra.2.1 hra.2.2.2
    rw[lQ]at this⊢;rw[AOq]at this;exact this
   ·simp
   ·intro c hc
    rw[lQ]at hc;simp at hc;subst hc;exact⟨fun wS=>Nat.lt_irrefl _ (hSep.cf _ wS),by show _<(w.heap.push _).size;simp⟩
  ·have FW:p<rows.length:=by omega
   have hpm:p*r.n≤rows.length*r.n:=AQY _ hpn;have ART:(p+vs.length)*r.n=p*r.n+vs.length*r.n:=ARz ..;have hnm:(rows.length+vs.length)*r.n=rows.length*r.n+vs.length*r.n:=ARz ..;rcases hcase with⟨h0,_⟩|⟨b,o,arr,ty,fr,rfl,hb,Pe,hu,rfl,th⟩
   ·omega
   have ACQ:b<w.heap.size:=hSep.lt b (by simp);have ig:=AFK (ρ:=ρ) L (i0:=i0) (z:=z) i1 i4 (by rw[i2];exact hzl) (by rw[i2];exact hn0) (by omega) b o rows.length cap p ⟨vb,vo,none⟩ vs.length vc css.flatten rl.flatten w FW hm hle (by omega) X9 (by rw[i2];exact xT) (by rw[i2];exact xO) ACQ th AZO (by rw[i2];exact AS7) AL7 AB5;refine fin ig fun e w' h=> ?_
   obtain⟨rfl,W,re,hWo,hWt,hWu,rfl⟩:=h
   generalize grownCap w (rows.length+vs.length) cap (ρ.t 9)=gc at hgc re⊢
   have hA:(css.flatten.take (p*r.n)).length=p*r.n:=by rw[AUB];omega
   have hB:(css.flatten.drop (p*r.n)).length=rows.length*r.n-p*r.n:=by rw[AT7,xT]
   rw[i2]at re
   generalize ABL:(css.flatten.take (p*r.n)).toArray++Builtin.zeroCells z.cells (rows.length+vs.length-p)++Builtin.zeroCells z.cells (gc-(rows.length+vs.length))=ROW at re
   have hRs:ROW.size=gc*r.n:=by
    rw[←ABL];simp only[AWO,AWP,ZH,hzl,hA,←ARz];congr 1;omega
   have hgm:(rows.length+vs.length)*r.n≤gc*r.n:=AQY _ hgc;have hbW:W.heap[w.heap.size]? =some (.cells ROW (ρ.t 9)):=by rw[re];simp
   have hcA:Bb W w.heap.size 0 (css.flatten.take (p*r.n)):=fun j v hj=>by
    have wT:=(AMX.1 hj).1;rw[LC hbW,AR5,←Array.getElem?_toList,←ABL];simp only[Array.toList_append,AOT];rw[AQS wT];exact hj
   obtain⟨Kf,q1,q2,q3⟩:=hO (B:=css.flatten.drop (p*r.n)) (V:=rl.flatten) hbW (by omega) hcA;rw[hA,xO,←ART,←i2,AR5,AR5]at q1 q3
   generalize qc:(W.setCells w.heap.size (p*i0.size) rl.flatten).setCells w.heap.size ((p+vs.length)*i0.size) (css.flatten.drop (p*i0.size))=w' at q1 q3
   have wa:=(((vY.take p).append Yj).append (vY.drop p)).to (w':=w') hf;rw[i_]at wa;have wb:l'.length=rows.length+vs.length:=by rw[←i_];simp;omega
   refine⟨_,w.heap.size::(List.replicate l'.length ([]:ABH)).flatten,rfl,rfl,?_,?_,?_,fun c hc=> ?_,?_⟩
   ·have:=jA (cap:=gc) (wa.at (S:=E.S) (d:=0) hf) q1 (by
     rw[ASB,ASB,←vY.rU p hpn,←vY.rW p hpn,←i2];exact q3) (by rw[wb];exact hgc) (by rw[q2];omega) (Wt _)
    rw[lQ]at this⊢;rw[wb]at this;exact this
   ·simp
   ·intro c hc
    rw[lQ]at hc;simp at hc;subst hc;refine⟨fun wS=>Nat.lt_irrefl _ (hSep.cf _ wS),?_⟩;rw[←qc,DY,DY,re];simp
   ·have ZF:=hSep.cf c hc
    rw[←qc,DQ _ _ _ _ _ (by omega),DQ _ _ _ _ _ (by omega),re];exact I4 ZF
   ·rw[←qc]
    refine Grown.trans' (w':=W) ⟨hWo,hWt,hWu,by rw[re];simp⟩ (Grown.trans' (CA _ _ _ _) (CA _ _ _ _))
end Go.Fw
end
section
namespace Go.Fw
open Go.M Go.Proofs Go.Shelf Go.RowKit Go.Lib
structure ph (P:Program) (ρ:Ren) (nm:String):Prop where
 mixed:P.follows .mixedOrders=true
 f24:P.funcs[ρ.f 24]? =some { Body2.n24 ρ with name:=nm }
 n24:(nm== "runtime.NumGoroutine")=false
 t0:P.underlying (ρ.t 0)=some (TypeDesc.tuple #[])
 a0:∀w,(isAgg (ρ.t 0)).run P w= .ok false w
 z0:∀w,(Go.sizeOf (ρ.t 0)).run P w= .ok 1 w
 v0:∀w,(zeroValue (ρ.t 0)).run P w= .ok (Value.tuple #[]) w
 t3:P.underlying (ρ.t 3)=some (TypeDesc.int IntKind.i64)
 a3:∀w,(isAgg (ρ.t 3)).run P w= .ok false w
 z3:∀w,(Go.sizeOf (ρ.t 3)).run P w= .ok 1 w
 v3:∀w,(zeroValue (ρ.t 3)).run P w= .ok (Value.int IntKind.i64 0) w
 t4:P.underlying (ρ.t 4)=some (TypeDesc.bool)
 a4:∀w,(isAgg (ρ.t 4)).run P w= .ok false w
 z4:∀w,(Go.sizeOf (ρ.t 4)).run P w= .ok 1 w
 v4:∀w,(zeroValue (ρ.t 4)).run P w= .ok (Value.bool false) w
 t24:P.underlying (ρ.t 24)=some (TypeDesc.slice (ρ.t 9))
 a24:∀w,(isAgg (ρ.t 24)).run P w= .ok false w
 z24:∀w,(Go.sizeOf (ρ.t 24)).run P w= .ok 1 w
 v24:∀w,(zeroValue (ρ.t 24)).run P w= .ok (Value.slice none 0 0) w
section
variable{P:Program} {ρ:Ren} {nm:String}
set_option maxHeartbeats 4000000 in
set_option maxRecDepth 1000000 in
theorem ADT(L:ph P ρ nm){k:Nat}(z9:∀w,(Go.sizeOf (ρ.t 9)).run P w= .ok k w)(ad:Option Addr)(n c i:Nat)(w:World)(hi:i≤n)(hnc:n≤c):
  Calls P (ρ.f 24) #[.slice ad n c,.int .i64 i,.int .i64 i] w fun e w' =>e= .returned (.slice ad n c)∧w' =w:=by
 have mixed:=L.mixed;have t0:=L.t0;have a0:=L.a0;have z0:=L.z0;have v0:=L.v0;have t3:=L.t3;have a3:=L.a3;have z3:=L.z3;have v3:=L.v3;have t4:=L.t4;have a4:=L.a4;have z4:=L.z4;have v4:=L.v4;have t24:=L.t24;have a24:=L.a24;have z24:=L.z24;have v24:=L.v24;have u0:=run_underlying L.t0;have u3:=run_underlying L.t3;have u4:=run_underlying L.t4;have Ip:=run_underlying L.t24
 go_enter L.f24,Body2.n24_ntmps ρ
 cases ad with
 |none=>
  go_wp2
  all_goals (go_ret;exact⟨rfl,rfl⟩)
 |some a=>
  obtain⟨ab,ao,asp⟩:=a
  go_wp2
  all_goals (go_ret;exact⟨rfl,rfl⟩)
theorem vl{w:World}{t elem ty:TypeId}{i0:TypeInfo}{z:Value}{b o n cap:Nat}{Z:List Value}(hu:P.underlying t=some (.slice elem))(hi:P.info? elem=some i0)(hz:i0.zero=some z)(hn:0<n)(hZ:(Builtin.zeroCells z.cells n).toList=Z)
  (nX:w.there b o Z.length) (h1:∀v∈Z,v.oneCell' =true):(Builtin.clear_ #[t] ty #[.slice (some ⟨b,o,none⟩) n cap]).run P w= .ok (.tuple #[]) (w.setCells b o Z):=by
 have qM:=run_storeCells_cells (P:=P) b o Z 0 w (by simpa using fun j hj=>(nX j hj).1) (by simpa using fun j hj=>(nX j hj).2) h1;rw[ASI]at qM;obtain⟨n,rfl⟩:∃m,n=m+1:=⟨n-1,by omega⟩;simp[Builtin.clear_,run_underlying hu,zeroValue,typeInfo,hi,hz,hZ,qM]
set_option maxHeartbeats 4000000 in
set_option maxRecDepth 1000000 in
theorem ACo(L:ph P ρ nm){i0:TypeInfo}{z:Value}(uD:P.info? (ρ.t 9)=some i0)(hz:i0.zero=some z)(b off n c i j:Nat)(cs Z:List Value)(w:World)(hij:i<j)(hj:j≤n)(hnc:n≤c)
  (ZF:cs.length=n*i0.size) (vh:Bb w b off cs) (nX:w.there b off (n*i0.size)) (h1c:∀v∈cs,v.oneCell' =true) (hZ:(Builtin.zeroCells z.cells (j-i)).toList=Z) (hZl:Z.length=(j-i)*i0.size) (h1z:∀v∈Z,v.oneCell' =true):
  Calls P (ρ.f 24) #[.slice (some ⟨b,off,none⟩) n c,.int .i64 i,.int .i64 j] w fun e w' =>
   e= .returned (.slice (some ⟨b,off,none⟩) (i+(n-j)) c)∧ ∃W:World,W.heap=w.heap∧Grown w W∧w' =(W.setCells b (off+i*i0.size) (cs.drop (j*i0.size))).setCells b (off+(i+(n-j))*i0.size) Z:=by
 have mixed:=L.mixed;have t0:=L.t0;have a0:=L.a0;have z0:=L.z0;have v0:=L.v0;have t3:=L.t3;have a3:=L.a3;have z3:=L.z3;have v3:=L.v3;have t4:=L.t4;have a4:=L.a4;have z4:=L.z4;have v4:=L.v4;have t24:=L.t24;have a24:=L.a24;have z24:=L.z24;have v24:=L.v24;have u0:=run_underlying L.t0;have u3:=run_underlying L.t3;have u4:=run_underlying L.t4;have Ip:=run_underlying L.t24;have z9:∀w,(Go.sizeOf (ρ.t 9)).run P w= .ok i0.size w:=fun w=>by simp[sizeOf,typeInfo,uD]
 obtain⟨k,hk⟩:∃k,i0.size=k:=⟨_,rfl⟩;rw[hk]at ZF nX hZl z9⊢;have e1:(n-j)*k=n*k-j*k:=ATz ..;have e2:(j-i)*k=j*k-i*k:=ATz ..;have e3:j*k≤n*k:=AQY _ hj;have e4:i*k≤j*k:=AQY _ (by omega);have e5:(i+(n-j))*k=i*k+(n-j)*k:=ARz ..;obtain⟨news,lg⟩:∃news,news=cs.drop (j*k):=⟨_,rfl⟩;have hlen:news.length=(n-j)*k:=by rw[lg,AT7,ZF];omega
 rw[←lg];obtain⟨A,hA,ANI⟩:∃A:Addr,(if c=j then(some ⟨b,off,none⟩:Option Addr)else some ⟨b,off+j*k,none⟩)=some A∧Hid (∀t u,news[t]? =some u→w.drew.cell? (A.add t)=some u):=by
  by_cases h:c=j
  ·refine⟨⟨b,off,none⟩,by simp[h],fun t u hu=> ?_⟩
   have h0:news.length=0:=by rw[hlen,show n-j=0 by omega,Nat.zero_mul]
   rw[ASq.1 h0]at hu;simp at hu
  ·refine⟨⟨b,off+j*k,none⟩,by simp[h],fun t u hu=> ?_⟩
   rw[lg,ATQ]at hu;rw[Addr.add_eq,ASG];exact vh _ u hu
 have s1:Hid (news.length=(n-j)*k):=hlen;have s2:Hid (∀u∈news,u.oneCell' =true):=fun u hu=>h1c u (by rw[lg]at hu;exact ATh hu)
 have s3:Hid (∀t,t<news.length→(w.drew.cell? ⟨b,off+i*k+t,none⟩).isSome=true∧w.drew.frozen? ⟨b,off+i*k+t,none⟩=false):=by
  intro t ht;rw[hlen]at ht;rw[ASG];exact nX _ (by omega)
 obtain⟨W1,hW1⟩:∃W1,W1=w.drew.setCells b (off+i*k) news:=⟨_,rfl⟩;have Aef:∀ty,(Builtin.clear_ #[ρ.t 24] ty #[.slice (some ⟨b,off+(i+(n-j))*k,none⟩) (n-(i+(n-j))) (c-(i+(n-j)))]).run P W1= .ok (.tuple #[]) (W1.setCells b (off+(i+(n-j))*k) Z):=fun ty=>by
  rw[show n-(i+(n-j))=j-i by omega];refine vl L.t24 uD hz (by omega) hZ (fun t ht=> ?_) h1z;rw[hZl]at ht;have h0:=nX ((i+(n-j))*k+t) (by omega);rw[←ASG]at h0;rw[hW1];refine⟨isSome_setCells b _ _ _ (fun q hq=> ?_) _ h0.1,by rw[World.frozen?_setCells];exact h0.2⟩;rw[hlen]at hq;have:=(nX (i*k+q) (by omega)).1;rw[←ASG]at this;exact this
 have hW:Hid (W1=w.drew.setCells b (off+i*k) news):=hW1;have hic:i≤c:=by omega
 have hjc:j≤c:=by omega
 have hjn:(i:Int)≤(j:Int):=by omega
 have fin:∃W:World,W.heap=w.heap∧Grown w W∧W1.setCells b (off+(i+(n-j))*k) Z=(W.setCells b (off+i*k) news).setCells b (off+(i+(n-j))*k) Z:=⟨w.drew,rfl,⟨rfl,rfl,rfl,AP3 _⟩,by rw[hW1]⟩;clear hW1 lg hlen e1 e2 e3 e4 e5 nX vh ZF hZl
 go_enter L.f24,Body2.n24_ntmps ρ
 go_wp2_with fail
 go_region_law_o (refine step_append_room rfl (.tmp 22) (.tmp 25) (ρ.t 24) rfl (ρ.t 9) i0 k t24 uD hk b off i c (by simp[Act.eval,Act.put]) A (n-j) (c-j) news (by simp[Act.eval,Act.put]) s1.out ANI.out s2.out (by omega) s3.out ?_;rw[←hW.out])
 go_wp2
 go_ret
 exact⟨rfl,fin⟩
end
end Go.Fw
end
section
namespace Go.Fw
open Go.M Go.Proofs Go.Shelf Go.RowKit Go.Lib
theorem FL.take{w:World}{S:Nat→Prop}{d:Nat}{r:Ty}{css:List (List Value)}{rows:List r.D}{Fs:List ABH}(h:FL w S d r css rows Fs)(n:Nat):FL w S d r (css.take n) (rows.take n) (Fs.take n):=by
 refine⟨by simp[h.1],by simp[h.2.1],fun c hc=>h.2.2.1 c (AVc hc),fun i cs y G a b c=> ?_⟩;rw[AUd]at a b c;split at a
 ·rename_i hi
  rw[AME hi]at b c;exact h.2.2.2 i cs y G a b c
 simp_all
theorem FL.drop{w:World}{S:Nat→Prop}{d:Nat}{r:Ty}{css:List (List Value)}{rows:List r.D}{Fs:List ABH}(h:FL w S d r css rows Fs)(n:Nat):FL w S d r (css.drop n) (rows.drop n) (Fs.drop n):=by
 refine⟨by simp[h.1],by simp[h.2.1],fun c hc=>h.2.2.1 c (ATh hc),fun i cs y G a b c=> ?_⟩;rw[ATQ]at a b c;exact h.2.2.2 _ cs y G a b c
theorem zd{r:Ty}{css:List (List Value)}(hl:∀c∈css,c.length=r.n)(n:Nat)(hn:n≤css.length):css.flatten.take (n*r.n)=(css.take n).flatten:=by
 have h1:((css.take n).flatten).length=n*r.n:=by
  grind[IB,List.mem_of_mem_take,List.length_take,Nat.min_eq_left]
 grind[List.take_append_drop,List.flatten_append,List.take_of_length_le]
theorem AAf{r:Ty}{css:List (List Value)}(hl:∀c∈css,c.length=r.n)(n:Nat)(hn:n≤css.length):css.flatten.drop (n*r.n)=(css.drop n).flatten:=by
 have h1:((css.take n).flatten).length=n*r.n:=by
  grind[IB,List.mem_of_mem_take,List.length_take,Nat.min_eq_left]
 grind[List.take_append_drop,List.flatten_append,List.drop_eq_nil_of_le]
theorem dI:∀{A B:List ABH},A.Sublist B→A.flatten.Sublist B.flatten
 |_,_,.slnil=> .slnil
 |_,_,.cons b h=>(dI h).trans (List.sublist_append_right _ _)
 |_,_,.cons_cons b h=>(List.Sublist.refl b).append (dI h)
theorem Va{Fs:List ABH}{p q:Nat}(hpq:p≤q):((Fs.take p++Fs.drop q).flatten).Sublist Fs.flatten:=by
 grind[List.drop_drop,List.drop_sublist,List.take_append_drop,dI]
@[reducible] def r8 (d:Nat) (r:Ty):BE:=⟨[(0,.c (.ref 0)),(1,.c (.v (.int .i64))),(2,.c (.v (.int .i64)))],[.sl d r]⟩
@[reducible] def xX (d:Nat) (r:Ty):BE:=⟨[(0,.c (.ref 1))],[.gone,.sl d r]⟩
theorem sj{P:Program}{T:J0}{ρ:Ren}{nm:String}(hT:Ei P T)(L:ph P ρ nm){r:Ty}(Us:T.Nl (ρ.t 24) r=true)(hn0:0<r.n)(m:Nat):
  W0 P (ρ.f 24) ⟨r8 (m+1) r,xX (m+1) r,fun v=>(ACI v.1.2.1 v.1.2.2.1 v.2.1).map fun l=>(((),()),((),l,()))⟩:=by
 refine⟨by rfl,W6 L.f24 L.n24 (by kernel_rfl),?_⟩;intro E w v args u AV0 hB hS hg;obtain⟨⟨u0,p,q,u1⟩,rows,u2⟩:=v;obtain⟨⟨⟨⟩,⟨⟩⟩,⟨⟩,l,⟨⟩⟩:=u;simp only[AMU]at hg;obtain⟨l',i_,hg⟩:=hg;simp only[ARK,true_and,ARx]at hg;subst hg;unfold ACI at i_;split at i_
 case isFalse=>cases i_
 rename_i hc;obtain⟨hp0,hpq,hqn⟩:=hc;have hq0:(0:Int)≤q:=Int.le_trans hp0 hpq;obtain⟨p,rfl⟩:=AV2 hp0;obtain⟨q,rfl⟩:=AV2 hq0;simp only[ANW,AMO]at i_;have AOo:p≤q:=by omega
 have APo:q≤rows.length:=by omega
 obtain⟨⟨a0,h0,x0⟩,⟨a1,h1,x1⟩,⟨a2,h2,x2⟩,_⟩:=hS;have Ie:args= #[a0,a1,a2]:=by
  grind
 subst Ie;have e0:E.IE 0=a0:=by
  have:VR E w [Bx.sl (m+1) r rows] (.ref 0 []) a0:=x0;grind[VR,DB,Option.some.inj]
 have e1:a1= .int .i64 (p:Int):=by
  have:VR E w [Bx.sl (m+1) r rows] (.v (.int .i64) (p:Int)) a1:=x1;simp only[VR,Rd,ARF,ARx]at this;simp_all
 have e2:a2= .int .i64 (q:Int):=by
  have:VR E w [Bx.sl (m+1) r rows] (.v (.int .i64) (q:Int)) a2:=x2;simp only[VR,Rd,ARF,ARx]at this;simp_all
 subst e1 e2;obtain⟨Fs,⟨hFl,hFb⟩,hSep⟩:=hB;obtain⟨F,rfl⟩:∃F,Fs=[F]:=by
  match Fs,hFl with
  |[F],_=>simp_all
 have ADN:=hFb 0 (.sl (m+1) r rows) F rfl rfl;obtain⟨_,ho⟩:=ADN;rw[e0]at ho;simp only[ASK,AT0,AN8]at hSep;have ho0:=ho;obtain⟨ad,cap,css,Fs1,R1,rfl,hle,hd,hp1',hcase⟩:=nB ho;obtain⟨e,ti,hut,VC,hs1,hby,hrow⟩:=Kp hT Us;obtain⟨i0,z,i1,i2,i3,i4,i5,lr⟩:=Wp hT VC hrow;have he:e=ρ.t 9:=by
  have:=L.t24.symm.trans hut;simp_all
 subst he;rw[hs1]at i2;have z9:∀w,(Go.sizeOf (ρ.t 9)).run P w= .ok r.n w:=fun w=>by simp[sizeOf,typeInfo,i1,i2]
 have hzl:z.cells.size=r.n:=by rw[←ATy,i5,Gz]
 have fin:∀{Q:Ending→World→Prop},Calls P (ρ.f 24) #[.slice ad rows.length cap,.int .i64 (p:Int),.int .i64 (q:Int)] w Q→
   (∀e w',Q e w'→ ∃v F',e= .returned v∧isSlice v=true∧Ow w' E.S (m+1) (.sl r) [v] l' F'∧F'.Nodup∧(∀c∈F',¬E.T c∧c<w'.heap.size)∧(∀c,E.T c→w'.heap[c]? =w.heap[c]?)∧Grown w w')→_:=fun h hq=>zT (by omega) hSep h hq
 by_cases hpe:p=q
 ·subst hpe
  have hl:rows=l':=by simp_all
  subst hl;refine fin (ADT (k:=r.n) L z9 ad rows.length cap p w APo hle) fun e w' h=> ?_
  obtain⟨rfl,rfl⟩:=h;exact⟨_,F,rfl,rfl,ho0,hSep.nodup,fun c hc=>⟨hSep.free c hc,hSep.lt c hc⟩,fun _ _=>rfl,⟨rfl,rfl,rfl,AP3 _⟩⟩
 have FW:p<q:=by omega
 rcases hcase with⟨h0,_⟩|⟨b,o,arr,ty,fr,rfl,hb,Pe,hu,rfl,th⟩
 ·omega
 have hbT: ¬E.T b:=hSep.free b (by simp);have ACQ:b<w.heap.size:=hSep.lt b (by simp);have xu:=AU_.1 hSep.nodup;have xT:css.flatten.length=rows.length*r.n:=by rw[IB hd.2.2.1,hd.1]
 have g1:(rows.length-q)*r.n=rows.length*r.n-q*r.n:=ATz ..;have g2:(q-p)*r.n=q*r.n-p*r.n:=ATz ..;have g3:q*r.n≤rows.length*r.n:=AQY _ APo;have g4:p*r.n≤q*r.n:=AQY _ AOo;have g5:(p+(rows.length-q))*r.n=p*r.n+(rows.length-q)*r.n:=ARz ..;have g6:rows.length*r.n≤cap*r.n:=AQY _ hle;have hzr:Ek r≠[]:=fun h=>by simp_all
 have hZ:(Builtin.zeroCells z.cells (q-p)).toList=(List.replicate (q-p) (Ek r)).flatten:=by
  grind[Builtin.zeroCells,WV,Ek,Gz]
 have hZl:((List.replicate (q-p) (Ek r)).flatten).length=(q-p)*r.n:=by rw[HK,Gz]
 have hZ1:∀v∈(List.replicate (q-p) (Ek r)).flatten,v.oneCell' =true:=fun v hv=>by
  obtain⟨c,hc1,hc2⟩:=ARc.1 hv;rw[ASD hc1]at hc2;exact jx (w:=w) (S:=E.S) (d:=0) (eN lr) v hc2
 have ig:=ACo (ρ:=ρ) L (i0:=i0) (z:=z) i1 i4 b o rows.length cap p q css.flatten _ w FW APo hle (by simp_all) th (by grind[U6,mk]) hd.one hZ (by simp_all) hZ1;refine fin ig fun e w' h=> ?_
 obtain⟨rfl,W,re,hWg,rfl⟩:=h;rw[i2];have hA:(css.flatten.take (p*r.n)).length=p*r.n:=by grind
 have hB:(css.flatten.drop (q*r.n)).length=(rows.length-q)*r.n:=by simp_all
 have hbW:W.heap[b]? =some (.cells arr ty fr):=by simp_all
 have hcA:Bb W b o (css.flatten.take (p*r.n)):=Bb.heap (fun j v hj=>by
  rw[AUd]at hj;split at hj
  ·exact th j v hj
  simp_all) re
 obtain⟨Kf,q1,q2,q3⟩:=hO (B:=(List.replicate (q-p) (Ek r)).flatten) (V:=css.flatten.drop (q*r.n)) hbW (by omega) hcA;rw[hA,hB,←g5]at q1 q3
 generalize qc:(W.setCells b (o+p*r.n) (css.flatten.drop (q*r.n))).setCells b (o+(p+(rows.length-q))*r.n) ((List.replicate (q-p) (Ek r)).flatten)=w' at q1 q3
 have dX:∀c,c≠b→w'.heap[c]? =w.heap[c]?:=fun c hc=>by grind[DQ]
 have hcT:∀c,E.T c→c≠b:=fun c hc e=>hbT (e▸hc)
 have hra:=((hd.take p).append (hd.drop q)).mono (w':=w') (S':=E.S) (fun _ h=>h) (fun c hc=>dX c (hcT c (hSep.st c hc))) (fun c hc=>dX c (fun e=>xu.1 (e▸(Va AOo).subset hc)));rw[i_]at hra;have wb:l'.length=p+(rows.length-q):=by grind
 refine⟨_,b::(Fs1.take p++Fs1.drop q).flatten,rfl,rfl,?_,?_,fun c hc=> ?_,fun c hc=>dX c (hcT c hc),?_⟩
 ·have ZF:css.length=rows.length:=hd.1
  have:=jA (cap:=cap) hra q1 (by
   rw[ASB,←zd hd.2.2.1 p (by omega),←AAf hd.2.2.1 q (by omega)];intro j v hj;exact q3 j v (by grind)) (by omega) (by omega) (by simp_all)
  simp_all
 ·grind[List.nodup_cons,Va]
 ·have AXZ:w'.heap.size=w.heap.size:=by grind[DY]
  rcases AQw.1 hc with rfl|hc
  ·simp_all
  ·have hm:c∈b::Fs1.flatten:=AWW _ ((Va AOo).subset hc)
   exact⟨hSep.free c hm,by rw[AXZ];exact hSep.lt c hm⟩
 grind[Grown.trans',CA]
end Go.Fw
end
section
namespace Go.Fw
open Go.M Go.Proofs Go.Shelf Go.RowKit Go.Lib
section
variable{P:Program} {ρ:Ren} {nm:String} {fv:Func}
theorem Rf{t:TypeId}{n:Nat}(h:(P.info? t).map (·.size)=some n):∀w,(Go.sizeOf t).run P w= .ok n w:=fun w=>by
 obtain⟨i,hi,rfl⟩:=AMU.1 h;simp[sizeOf,typeInfo,hi]
theorem Yi{t:TypeId}{z:Value}(h:(P.info? t).bind (·.zero)=some z):∀w,(zeroValue t).run P w= .ok z w:=fun w=>by
 obtain⟨i,hi,hz⟩:=AMi.1 h;simp[zeroValue,typeInfo,hi,hz]
structure lN (P:Program) (ρ:Ren):Prop where
 t0:P.underlying (ρ.t 0)=some (TypeDesc.tuple #[])
 t3:P.underlying (ρ.t 3)=some (TypeDesc.int IntKind.i64)
 t4:P.underlying (ρ.t 4)=some (TypeDesc.bool)
 t24:P.underlying (ρ.t 24)=some (TypeDesc.slice (ρ.t 9))
 s0:(P.info? (ρ.t 0)).map (·.size)=some 1
 s3:(P.info? (ρ.t 3)).map (·.size)=some 1
 s4:(P.info? (ρ.t 4)).map (·.size)=some 1
 gx:(P.info? (ρ.t 24)).map (·.size)=some 1
 v0:(P.info? (ρ.t 0)).bind (·.zero)=some (Value.tuple #[])
 v3:(P.info? (ρ.t 3)).bind (·.zero)=some (Value.int IntKind.i64 0)
 v4:(P.info? (ρ.t 4)).bind (·.zero)=some (Value.bool false)
 v24:(P.info? (ρ.t 24)).bind (·.zero)=some (Value.slice none 0 0)
theorem lN.ins(h:lN P ρ)(hm:P.follows .mixedOrders=true)(f22:P.funcs[ρ.f 22]? =some { Body2.n22 ρ with name:=nm })(n22:(nm== "runtime.NumGoroutine")=false)(f29:P.funcs[ρ.f 29]? =some fv)(n29:(fv.name== "runtime.NumGoroutine")=false)
  (b29:fv.body.isNone=true) (e29:Extern.findNext fv=none) (x29:Extern.find fv=some (Extern.SlicesOverlaps.overlaps #[(ρ.t 24),(ρ.t 24)] #[(ρ.t 4)])):cl P ρ nm fv:=
 ⟨hm,f22,n22,f29,n29,b29,e29,x29,h.t0,run_isAgg_plain h.t0 rfl,Rf h.s0,Yi h.v0,h.t3,run_isAgg_plain h.t3 rfl,Rf h.s3,Yi h.v3,h.t4,run_isAgg_plain h.t4 rfl,Rf h.s4,Yi h.v4,h.t24,run_isAgg_plain h.t24 rfl,Rf h.gx,Yi h.v24⟩
theorem lN.del(h:lN P ρ)(hm:P.follows .mixedOrders=true)(f24:P.funcs[ρ.f 24]? =some { Body2.n24 ρ with name:=nm })(n24:(nm== "runtime.NumGoroutine")=false):ph P ρ nm:=
 ⟨hm,f24,n24,h.t0,run_isAgg_plain h.t0 rfl,Rf h.s0,Yi h.v0,h.t3,run_isAgg_plain h.t3 rfl,Rf h.s3,Yi h.v3,h.t4,run_isAgg_plain h.t4 rfl,Rf h.s4,Yi h.v4,h.t24,run_isAgg_plain h.t24 rfl,Rf h.gx,Yi h.v24⟩
@[reducible] def JT (f22 f24 f29 f30 t24 t9:Nat):Ren:=⟨fun k=>if k=22 then f22 else if k=24 then f24 else if k=29 then f29 else if k=30 then f30 else k,fun k=>if k=24 then t24 else if k=9 then t9 else k,fun k=>k⟩
def ANr{T:J0}(hT:Ei P T)(L:cl P ρ nm fv){r:Ty}{f:Nat}(hf:ρ.f 22=f)(Us:T.Nl (ρ.t 24) r=true)(hr:(r.flat&&(decide (mk r=1)&&decide (0<r.n)))=true)(g:(rj r).Cu (Option (xe r).V))
  (hg:∀v:(rj r).V,(rj r).un g v=(uo v.1.2.1 v.1.2.2.1 v.2.1).map fun l=>(((),()),((),l,()))):SP P:=
 ⟨f,⟨rj r,xe r,(rj r).un g⟩,by
  simp only[AMY,AOV]at hr;rw[funext hg,←hf];grind[sQ]⟩
def AXu{T:J0}(hT:Ei P T)(L:ph P ρ nm){r:Ty}{f:Nat}(m:Nat)(hf:ρ.f 24=f)(Us:T.Nl (ρ.t 24) r=true)(hr:decide (0<r.n)=true)(g:(r8 (m+1) r).Cu (Option (xX (m+1) r).V))
  (hg:∀v:(r8 (m+1) r).V,(r8 (m+1) r).un g v=(ACI v.1.2.1 v.1.2.2.1 v.2.1).map fun l=>(((),()),((),l,()))):SP P:=
 ⟨f,⟨r8 (m+1) r,xX (m+1) r,(r8 (m+1) r).un g⟩,by
  rw[funext hg,←hf];exact sj hT L Us (of_decide_eq_true hr) m⟩
end
end Go.Fw
end
