/- The framework, part 2: a checked interpreter of the model's code over abstract states; no claim is made here. -/
import Derived.Test.YtebiojjohcpanaaGreatF0
import Derived.Below
import Derived.ChangeArms
import Derived.ChangeOld
import Derived.DataReads
import Derived.OrdersHeld
import Derived.Shelf.Slices.Delete
import Derived.Shelf.Spec.SlicesInsertGrow
import Derived.Tactics
set_option linter.unusedVariables false
set_option linter.unusedSimpArgs false
set_option linter.unusedSectionVars false
section
namespace Go.Fw
def alive(l:List BP)(i:Nat):Bool:=
 match l[i]? with
 |some .gone=>false
 |some _=>true
 |none=>false
def AP.LS(l:List BP):AP→Bool
 | .sl s _=>s
 | .my _=>false
 | .kY _ _=>false
 | .qt _ _=>false
 | .ref i=>decide (i<l.length)
 | .ptr i _=>alive l i
 | .fn _ J8=>J8.all (alive l)
 |_=>true
def XP.LS(l:List BP):XP→Bool
 | .c p=>p.LS l
 | .agg q=>q.all (AP.LS l)
 | .MH q=>q.all fun| .inl p=>p.LS l| .inr q=>q.all (AP.LS l)
 | .row _=>false
def BP.LS(l:List BP):BP→Bool
 | .mem q=>q.all (AP.LS l)
 |_=>true
def kinds:List BP→List BP→Bool
 |[],_=>true
 | .mem _::l,.mem _::m=>kinds l m
 | .sl _ r::l,.sl _ q::m=>decide (r=q)&&kinds l m
 | .mem _::l,.gone::m=>kinds l m
 | .sl _ _::l,.gone::m=>kinds l m
 |_,_=>false
def lU(l:List BP):List (Nat×XP)→Bool
 |[(0,p)]=>p.LS l
 |_=>false
def QU.ok(c:QU):Bool:=
 kinds c.ins.Gr c.outs.Gr&&lU c.outs.Gr c.outs.Dy&&c.outs.Gr.all (BP.LS c.outs.Gr)
theorem WY:∀{l m:List BP},kinds l m=true→l.length≤m.length∧ ∀(i:Nat) p,l[i]? =some p→p≠ .gone∧ ∀d r,m[i]? =some (.sl d r)→ ∃d',p= .sl d' r
 |[],m,_=>⟨by simp,fun i p h=>by simp at h⟩
 | .gone::l,[],h=>by simp[kinds]at h
 | .gone::l,_::_,h=>by simp[kinds]at h
 | .mem _::l,[],h=>by simp[kinds]at h
 | .sl _ _::l,[],h=>by simp[kinds]at h
 | .mem q::l,.mem _::m,h=>by
  obtain⟨h1,h2⟩:=WY (l:=l) (m:=m) (by simpa[kinds]using h);grind
 | .mem q::l,.gone::m,h=>by
  obtain⟨h1,h2⟩:=WY (l:=l) (m:=m) (by simpa[kinds]using h);grind
 | .mem q::l,.sl _ _::m,h=>by simp[kinds]at h
 | .sl d0 r0::l,.sl _ q::m,h=>by
  simp only[kinds,AML,AMc]at h;obtain⟨h1,h2⟩:=WY (l:=l) (m:=m) h.2;grind
 | .sl d0 r0::l,.gone::m,h=>by
  obtain⟨h1,h2⟩:=WY (l:=l) (m:=m) (by simpa[kinds]using h);grind
 | .sl _ _::l,.mem _::m,h=>by simp[kinds]at h
def Xe(P:Program)(f:Nat)(c:QU):Prop:=
 c.ok=true∧(∀args w,(callFunc f args).run P w= .ok (.enter f args) w)∧
 ∀(E:Env) (w:World) (v:c.ins.V) (args:Array Value) (u:c.outs.V),args.size=c.ins.Dy.length→
  C9 E w (Jb.mk id c.ins.Gr v.2) (Jb.mk id c.ins.Gr v.2) []→OW E w (Jb.mk id c.ins.Gr v.2) id c.ins.Dy v.1 args.toList→c.g v=some u→
  Calls P f args w fun e w' => ∃x E',e= .returned x∧ck E w E' w'∧C9 E' w' (Jb.mk id c.outs.Gr u.2) (Jb.mk id c.outs.Gr u.2) []∧
   OW E' w' (Jb.mk id c.outs.Gr u.2) id c.outs.Dy u.1 [x]∧ ∀i,i<c.ins.Gr.length→alive c.outs.Gr i=true→E'.Hk i=E.Hk i∧E'.Hl i=E.Hl i
theorem iQ:∀x:AV,Gj [] x=x
 | .ref b (s::p)=>by rfl
 | .ref b []=>rfl
 | .win b (s::p) i n=>by rfl
 | .win b [] i n=>rfl
 | .JQ b (s::p) i sz j=>by rfl
 | .JQ b [] i sz j=>rfl
 | .v _ _=>rfl
 | .sl _ _ _=>rfl
 | .nil=>rfl
 | .IC _ _=>rfl
 | .PE _ _ _ _=>rfl
 | .fn _ _=>rfl
 | .qt _ _=>rfl
 | .yW=>rfl
 | .undef=>rfl
theorem Y_:Gj []=id:=funext iQ
theorem vC:∀x:XV,Uo [] x=x
 | .c x=>by simp[Uo,iQ]
 | .agg l=>by simp[Uo,Y_]
 | .MH l=>by
  simp only[Uo,Y_];congr 1
  conv=>rhs;rw[←List.map_id l]
  apply ATF;intro x _;cases x with
  |inl x=>simp
  |inr q=>simp
theorem sK(m:PK)(σ:St):(σ.ZK m).tm=σ.tm.map (Uo m):=by
 cases m with
 |nil=>
  simp only[St.ZK];have:Uo []=id:=funext vC;simp_all
 |cons _ _=>rfl
theorem AB4(m:PK)(σ:St):(σ.ZK m).bx=σ.bx.map (Bx.map (Gj m)):=by
 cases m with
 |nil=>grind[St.ZK,Y_,Zn]
 |cons _ _=>
  rfl
theorem df(f:AV→AV):∀(m:PK) (bx:List Bx),Ct (bx.map (Bx.map f)) m=(Ct bx m).map (Bx.map f)
 |[],_=>rfl
 |none::m,bx=>by simp only[Ct];exact df f m bx
 |some b::m,bx=>by
  simp only[Ct];rw[←df f m (bx.set b .dead),List.map_set];rfl
theorem Ql:∀{m:PK} {bx:List Bx} {b:Nat},some b∉m→(Ct bx m)[b]? =bx[b]?
 |[],_,_,_=>rfl
 |none::m,bx,b,h=>by simp only[Ct];exact Ql (by simp_all)
 |some c::m,bx,b,h=>by
  simp only[Ct];rw[Ql (by simp_all),AS4 (by grind)]
theorem ACp{E E':Env}{w w':World}{vw vw':List Bx}{m:PK}(k:SW E w vw E' w' (Ct vw' m))
  (hb:∀b d' r Cz,some b∈m→vw'[b]? =some (.sl d' r Cz)→ ∃d rows,vw[b]? =some (.sl d r rows)∧List.length Cz=List.length rows∧E'.Hl b=E.Hl b) (hlen:vw.length≤vw'.length) {x:AV} {v:Value} (h:VR E w vw x v):VR E' w' vw' (Gj m x) v:=by
 have h1:=GH k h;have cy:∀{b'},some b'∉m→(Ct vw' m)[b']? =vw'[b']?:=fun e=>Ql e
 have get:∀{b'},b'<vw.length→ ∃B,vw'[b']? =some B:=fun hl=>⟨_,AL5 (by omega)⟩
 cases x with
 |v t x=>exact h1
 |sl s r x=>exact h1
 |nil=>exact h1
 |IC c j=>exact⟨by simpa[KO]using h1.1,h1.2⟩
 |PE s r x j=>exact h1
 |fn f J8=>exact⟨fun c hc=>by simpa[KO]using h1.1 c hc,h1.2⟩
 |qt f rows=>exact h1
 |yW=>exact h1
 |undef=>trivial
 |ref c p=>
  have other:some c∉m→VR E' w' vw' (.ref c p) v:=fun e=>by
   grind[VR]
  cases p with
  |nil=>
   simp only[Gj];by_cases e:some c∈m
   ·simp only[VR]at h⊢
    obtain⟨h0,h⟩:=h;refine⟨h0,?_⟩;cases hc:vw[c]? with
    |none=>simp_all
    |some B=>
     obtain⟨B',TL⟩:=get (AMK.1 hc).1;rw[TL];cases B' with
     |mem cs=>trivial
     |dead=>trivial
     |sl d' r Cz=>
      obtain⟨d,rows,e1,e2,e3⟩:=hb c d' r Cz e TL;rw[e1]at h;refine⟨by simp[DA],⟨_,rfl⟩,?_⟩;grind[C8]
   simp_all
  |cons s p=>
   simp only[Gj];split
   ·trivial
   simp_all
 |win c p off n=>
  have other:some c∉m→VR E' w' vw' (.win c p off n) v:=fun e=>by
   grind[VR]
  cases p with
  |nil=>
   simp only[Gj];by_cases e:some c∈m
   ·simp only[VR]at h⊢
    obtain⟨h0,h⟩:=h;refine⟨h0,?_⟩;cases hc:vw[c]? with
    |none=>simp_all
    |some B=>
     obtain⟨B',TL⟩:=get (AMK.1 hc).1;rw[TL];cases B' with
     |mem cs=>trivial
     |dead=>trivial
     |sl d' r Cz=>
      obtain⟨d,rows,e1,e2,e3⟩:=hb c d' r Cz e TL;rw[e1]at h;obtain⟨_,q,ys,a,len,cap,g1,g2,g3,g4⟩:=h;simp only[Gy,AMF,AM9]at g1;obtain⟨rfl,g1⟩:=g1;obtain rfl:=ARx g1;rw[C8]at g3;exact⟨by simp[DA],r,Cz,a,len,cap,rfl,by omega,by grind[C8],g4⟩
   simp_all
  |cons s p=>
   simp only[Gj];split
   ·trivial
   simp_all
 |JQ c p i sz j=>
  have other:some c∉m→VR E' w' vw' (.JQ c p i sz j) v:=fun e=>by
   grind[VR]
  cases p with
  |nil=>
   simp only[Gj];by_cases e:some c∈m
   ·simp only[VR]at h⊢
    obtain⟨h0,h⟩:=h;refine⟨h0,?_⟩;cases hc:vw[c]? with
    |none=>simp_all
    |some B=>
     obtain⟨B',TL⟩:=get (AMK.1 hc).1;rw[TL];cases B' with
     |mem cs=>trivial
     |dead=>trivial
     |sl d' r Cz=>
      obtain⟨d,rows,e1,e2,e3⟩:=hb c d' r Cz e TL;rw[e1]at h;obtain⟨_,q,ys,bb,o,len,cap,g1,g2,g3,g4⟩:=h;simp only[Gy,AMF,AM9]at g1;obtain⟨rfl,g1⟩:=g1;obtain rfl:=ARx g1;rw[C8]at g3;exact⟨by simp[DA],r,Cz,bb,o,len,cap,rfl,by omega,by grind[C8],g4⟩
   simp_all
  |cons s p=>
   simp only[Gj];split
   ·trivial
   simp_all
theorem ABI{E E':Env}{w w':World}{vw vw':List Bx}{m:PK}(k:∀x v,VR E w vw x v→VR E' w' vw' (Gj m x) v){x:XV}{v:Value}(h:XR E w vw x v):XR E' w' vw' (Uo m x) v:=by
 cases x with
 |c x=>exact k x v h
 |agg l=>
  obtain⟨vs,rfl,VC⟩:=h;exact⟨vs,rfl,CT.K8 _ k VC⟩
 |MH l=>
  obtain⟨vs,rfl,VC⟩:=h;refine⟨vs,rfl,CT.K8 _ (fun x v hx=> ?_) VC⟩;cases x with
  |inl x=>exact k x v hx
  |inr q=>
   obtain⟨us,rfl,hus⟩:=hx;exact⟨us,rfl,CT.K8 _ k hus⟩
def LX(JD:Nat→Nat):Nat→List Bx→List Bx→List Bx
 |_,[],bx=>bx
 |i,B::l,bx=>LX JD (i+1) l (if JD i<bx.length then bx.set (JD i) B else bx++[B])
theorem lk(JD:Nat→Nat):∀(i:Nat) (l:List BP) (x:Jb.V l) (bx:List Bx),Zi JD i l x bx=LX JD i (Jb.mk JD l x) bx
 |_,[],_,_=>rfl
 |i,p::l,x,bx=>by simp only[Zi,Jb.mk,LX];exact lk JD (i+1) l x.2 _
structure wD (JD:Nat→Nat) (M N:Nat):Prop where
 lt:∀k,k<M→JD k<N
 eq:∀k,M≤k→JD k=N+(k-M)
 inj:∀k k',k<M→k'<M→JD k=JD k'→k=k'
theorem wD.AT0{JD:Nat→Nat}{M N:Nat}(h:wD JD M N){k k':Nat}(e:JD k=JD k'):k=k':=by
 by_cases h1:k<M
 ·by_cases h2:k'<M
  ·exact h.inj k k' h1 h2 e
  ·have:=h.lt k h1
   have:=h.eq k' (by omega);omega
 ·by_cases h2:k'<M
  ·have:=h.lt k' h2
   have:=h.eq k (by omega);omega
  ·have:=h.eq k (by omega)
   have:=h.eq k' (by omega);omega
theorem fI{JD:Nat→Nat}{M N:Nat}(h:wD JD M N):∀{l:List Bx} {i:Nat} {bx:List Bx},bx.length=N+(i-M)→
  (LX JD i l bx).length=N+(i+l.length-M)∧(∀(j:Nat) B,l[j]? =some B→(LX JD i l bx)[JD (i+j)]? =some B)∧
   ∀n,n<bx.length→(∀j,j<l.length→JD (i+j)≠n)→(LX JD i l bx)[n]? =bx[n]?
 |[],i,bx,hl=>⟨by grind[LX],fun j B hj=>by simp_all,fun _ _ _=>rfl⟩
 |B::l,i,bx,hl=>by
  simp only[LX];have iL:(if JD i<bx.length then bx.set (JD i) B else bx++[B]).length=N+(i+1-M):=by
   split
   ·rename_i Kg
    by_cases hi:i<M
    ·grind
    ·have:=h.eq i (by omega);omega
   ·rename_i Kg
    by_cases hi:i<M
    ·have:=h.lt i hi;omega
    grind
  have Z4:(if JD i<bx.length then bx.set (JD i) B else bx++[B])[JD i]? =some B:=by
   split
   ·simp_all
   ·rename_i Kg
    by_cases hi:i<M
    ·grind
    ·have:=h.eq i (by omega)
     grind
  obtain⟨q1,q2,q3⟩:=fI h (l:=l) iL;refine⟨by grind,fun j C hj=> ?_,fun n hn cF=> ?_⟩
  ·cases j with
   |zero=>
    simp at hj;subst hj;exact(q3 (JD i) (AMK.1 Z4).1 (fun j hj e=>by have:=h.AT0 e;omega)).trans Z4
   |succ j=>
    grind
  ·have AbI:=cF 0 (by simp)
   rw[AUN]at AbI;rw[q3 n (by omega) (fun j hj=>by have:=cF (j+1) (by simp_all);grind)];grind
theorem dP{JD:Nat→Nat}{M N:Nat}(h:wD JD M N){E:Env}{w:World}{vw:List Bx}:∀{l:List Bx} {i:Nat} {bx:List Bx} {Fs:List AA4},bx.length=N+(i-M)→(∀k,i≤k→k<M→bx[JD k]? =some .dead)→
  Fs.length=l.length→(∀(j:Nat) B F,l[j]? =some B→Fs[j]? =some F→n0 E w vw (JD (i+j)) B F)→C9 E w vw bx Fs.flatten→C9 E w vw (LX JD i l bx) []
 |[],i,bx,Fs,hl,hd,hF,hB,vX=>by
  grind[List.eq_nil_of_length_eq_zero,LX]
 |B::l,i,bx,F::Fs,hl,hd,hF,hB,vX=>by
  simp only[LX];have hBi:=hB 0 B F rfl rfl;rw[AUN]at hBi;have next:∀{QS},QS.length=N+(i+1-M)→(∀k,i+1≤k→k<M→QS[JD k]? =some .dead)→C9 E w vw QS Fs.flatten→C9 E w vw (LX JD (i+1) l QS) []:=by
   intro QS h1 h2 h3;refine dP h h1 h2 (by simp_all) (fun j C G hC hG=> ?_) h3;have:=hB (j+1) C G (by simp_all) (by simp_all);grind
  rw[AUJ]at vX;by_cases hi:i<M
  ·have Kg:=h.lt i hi
   rw[ALy (by omega)];refine next (by grind) (fun k hk1 hk2=> ?_) (vX.put (hd i (AQW _) hi) hBi);rw[AS4 (fun e=>by have:=h.AT0 e;omega)];grind
  ·have heq:=h.eq i (by omega)
   rw[AMD (by omega)];have e1:JD i=bx.length:=by omega
   rw[e1]at hBi;exact next (by grind) (fun k hk1 hk2=>by omega) (vX.push hBi)
 |_::_,_,_,[],_,_,hF,_,_=>by simp_all
structure ud (E' E2:Env) (l:List BP) (u:Jb.V l) (vw2:List Bx) (JD:Nat→Nat):Prop where
 ids:∀i,alive l i=true→E2.Hk (JD i)=E'.Hk i∧E2.Hl (JD i)=E'.Hl i
 bx:∀(i:Nat) p,l[i]? =some p→ ∃y,(Jb.mk id l u)[i]? =some (p.mk id y)∧vw2[JD i]? =some (p.mk JD y)
 S:E2.S=E'.S
theorem au(JD:Nat→Nat):∀{l:List BP} {u:Jb.V l} {i:Nat} {p:BP},l[i]? =some p→ ∃y:p.V,(Jb.mk id l u)[i]? =some (p.mk id y)∧(Jb.mk JD l u)[i]? =some (p.mk JD y)
 |q::l,u,0,p,h=>by
  simp at h;subst h;exact⟨u.1,rfl,rfl⟩
 |q::l,u,i+1,p,h=>by
  obtain⟨y,h1,h2⟩:=au JD (u:=u.2) (i:=i) (by simpa using h);grind[Jb.mk]
 |[],_,_,_,h=>by simp at h
theorem TG(JD:Nat→Nat):∀{l:List BP} {u:Jb.V l},(Jb.mk JD l u).length=l.length
 |[],_=>rfl
 |_::l,u=>by simp[Jb.mk,TG JD (l:=l)]
section
variable{E' E2:Env} {w:World} {l:List BP} {u:Jb.V l} {vw2:List Bx} {JD:Nat→Nat} (r:ud E' E2 l u vw2 JD)
include r
omit r in
theorem tH{i:Nat}(h:alive l i=true):∃p,l[i]? =some p∧p≠ .gone:=by
 unfold alive at h;cases e:l[i]? with
 |none=>rw[e]at h;cases h
 |some p=>
  refine⟨p,rfl,fun hp=> ?_⟩;rw[e,hp]at h;cases h
theorem zn{p:AP}{y:p.V}{v:Value}(Br:p.LS l=true)(h:VR E' w (Jb.mk id l u) (p.mk id y) v):VR E2 w vw2 (p.mk JD y) v:=by
 cases p with
 |v t=>exact h
 |sl s q=>
  simp only[AP.LS]at Br;subst Br;simp only[AP.mk,VR,AS_]at h⊢;rw[r.S];omega
 |nil=>exact h
 |ref i=>
  simp only[AP.LS,AMc]at Br;obtain⟨p,hp⟩:∃p,l[i]? =some p:=⟨_,AL5 Br⟩;obtain⟨z,z1,z2⟩:=r.bx i p hp;simp only[AP.mk,VR,id]at h⊢;refine⟨h.1,?_⟩;have h2:=h.2;rw[z1]at h2;rw[z2];cases p with
  |mem q=>trivial
  |gone=>trivial
  |sl d q=>
   have hid:=(r.ids i (by simp[alive,hp])).2;grind[BP.mk]
 |ptr i j=>
  simp only[AP.LS]at Br;obtain⟨p,hp,hg⟩:=tH Br;obtain⟨z,z1,z2⟩:=r.bx i p hp;refine⟨(AMK.1 z2).1,?_⟩;rw[(r.ids i Br).1];exact h.2
 |my q=>simp[AP.LS]at Br
 |kY i sz=>simp[AP.LS]at Br
 |qt f rs=>simp[AP.LS]at Br
 |fn f J8=>
  simp only[AP.LS,ATV]at Br;obtain⟨h1,h2⟩:=h;refine⟨fun b hb=> ?_,?_⟩
  ·obtain⟨i,hi,rfl⟩:=ATS.1 hb
   obtain⟨p,hp,_⟩:=tH (Br i hi);obtain⟨z,_,z2⟩:=r.bx i p hp;grind
  ·rw[h2,AUo]
   congr 2
   rw[AUo];apply ATF;intro i hi;simp only[Function.comp,id,(r.ids i (Br i hi)).1]
 |any=>trivial
theorem nh:∀{q:List AP} {y:Xi.V q} {vs:List Value},q.all (AP.LS l)=true→iz E' w (Jb.mk id l u) (Xi.mk id q y) vs→iz E2 w vw2 (Xi.mk JD q y) vs
 |[],_,[],_,_=>trivial
 |[],_,_::_,_,h=>h.elim
 |p::q,y,[],_,h=>h.elim
 |p::q,y,v::vs,Br,h=>by
  simp only[ATa,AML]at Br;exact⟨zn r Br.1 h.1,nh Br.2 h.2⟩
theorem ue:∀{q:List (AP ⊕ List AP)} {y:Ya.V q} {vs:List Value},(q.all fun| .inl p=>p.LS l| .inr q=>q.all (AP.LS l))=true→CT (TR E' w (Jb.mk id l u)) (Ya.mk id q y) vs→CT (TR E2 w vw2) (Ya.mk JD q y) vs
 |[],_,[],_,_=>trivial
 |[],_,_::_,_,h=>h.elim
 | .inl p::q,y,[],_,h=>h.elim
 | .inr p::q,y,[],_,h=>h.elim
 | .inl p::q,y,v::vs,Br,h=>by
  simp only[ATa,AML]at Br;exact⟨zn r Br.1 h.1,ue Br.2 h.2⟩
 | .inr p::q,y,v::vs,Br,h=>by
  simp only[ATa,AML]at Br;obtain⟨us,e,hus⟩:=h.1;exact⟨⟨us,e,nh r Br.1 hus⟩,ue Br.2 h.2⟩
theorem APR{p:XP}{y:p.V}{v:Value}(Br:p.LS l=true)(h:XR E' w (Jb.mk id l u) (p.mk id y) v):XR E2 w vw2 (p.mk JD y) v:=by
 cases p with
 |c p=>exact zn r Br h
 |agg q=>
  obtain⟨vs,e,VC⟩:=h;exact⟨vs,e,nh r Br VC⟩
 |row q=>simp[XP.LS]at Br
 |MH q=>
  obtain⟨vs,e,VC⟩:=h;exact⟨vs,e,ue r Br VC⟩
theorem ASq{i:Nat}{p:BP}{y:p.V}{F:AA4}(hi:l[i]? =some p)(Br:p.LS l=true)(h:n0 E' w (Jb.mk id l u) i (p.mk id y) F):n0 E2 w vw2 (JD i) (p.mk JD y) F:=by
 cases p with
 |mem q=>
  obtain⟨h1,arr,ty,fr,h2,h3,h4⟩:=h;have hid:=(r.ids i (by simp[alive,hi])).1;exact⟨by simp_all,arr,ty,fr,by simp_all,h3,nh r Br h4⟩
 |sl d q=>
  obtain⟨h1,h2⟩:=h;refine⟨h1,?_⟩;rw[(r.ids i (by simp[alive,hi])).2,r.S];omega
 |gone=>exact h
end
end Go.Fw
end
section
namespace Go.Fw
theorem uU{s:Ba}{N:Nat}{m0 m:PK}{tm:List XV}{bx:List Bx}{x:s.V}(e:s.fit N m0 tm bx=some (x,m)):∀(k:Nat) p,s.Gr[k]? =some p→p≠ .gone→ ∃b B,m[k]? =some (some b)∧bx[b]? =some B∧B≠ .dead∧
  ∀d r,p= .sl d r→ ∃d' rows,B= .sl d' r rows:=by
 simp only[Ba.fit,AMQ,AMI]at e;obtain⟨m1,e1,m2,e2,a,e3,c,e4,e5⟩:=e;cases e5;obtain⟨q1,q2⟩:=RW (JD:=id) e4;grind
theorem AEW(n:Nat):qU (List.replicate n none):=fun i j b h=>by
 grind
theorem yJ{w:World}{B B':Nat→Prop}{w':World}{r:Ty}{v:Value}{x y:List r.D}(h:Rd w B (.sl r) [v] x)(h':Rd w' B' (.sl r) [v] y):y.length=x.length:=by
 simp only[Rd]at h h';grind
section
variable{Y:Type} {P:Program} {E:Env} {σ:St} {a:Act} {w:World} {k:K Y} {y:Y}
theorem rM{E' E2:Env}{l:List BP}{u:Jb.V l}{vw2:List Bx}{JD:Nat→Nat}(r:ud E' E2 l u vw2 JD):∀{sl:List (Nat×XP)} {z:Gt.V sl} {x:Value},
  lU l sl=true→OW E' w (Jb.mk id l u) id sl z [x]→XR E2 w vw2 (eI sl z JD) x
 |[(0,p)],z,x,Br,h=>by
  obtain⟨⟨v,hv,hx⟩,_⟩:=h;simp at hv;subst hv;exact APR r Br hx
 |[],_,_,Br,_=>by simp[lU]at Br
 |(_+1,_)::_,_,_,Br,_=>by simp[lU]at Br
 |(0,_)::_::_,_,_,Br,_=>by simp[lU]at Br
def eK(c:QU)(xs:List XV)(σ:St):AA4:=
 match c.ins.fit σ.bx.length c.ins.m0 xs (c.ins.opens σ.bx)with
 |some (_,m)=>m.filterMap id
 |none=>[]
theorem tD(h:Rel E σ a w)(s:Ba):∃E',Rel E' { σ with bx:=s.opens σ.bx } a w∧Q5 [] E σ.bx w E' (s.opens σ.bx) w∧(∀(i:Nat) d r,s.Gr[i]? =some (.sl d r)→E'.Hl (σ.bx.length+i)= .slice none 0 0)∧
  (∀x v,XR E w σ.bx x v→XR E' w (s.opens σ.bx) x v):=by
 let E':Env:={ E with Hl:=fun k=>if k<σ.bx.length then E.Hl k else .slice none 0 0 }
 have hlen:σ.bx.length≤(s.opens σ.bx).length:=by simp[Ba.opens]
 have hold:∀b,b<σ.bx.length→(s.opens σ.bx)[b]? =σ.bx[b]?:=fun b hb=>by grind[Ba.opens,List.getElem?_append_left]
 have mv:∀b,b<σ.bx.length→E'.Hl b=E.Hl b:=fun b hb=>by grind
 have keep:SW E w σ.bx E' w (s.opens σ.bx):=
  ⟨hlen,fun _ _=>rfl,fun _ h=>h,fun _ h=>h,h.bx.st,fun _ _=>rfl,fun b d r rows hb e=>⟨d,rows,by simp_all,fun p hp q ys hg=>⟨hp,⟨ys,hg,rfl⟩,fun hh he=>by simp_all⟩⟩⟩
 obtain⟨Fs,⟨f1,f2⟩,f3⟩:=h.bx;refine⟨E',⟨h.NT,h.tm.imp fun _ _ hx=>Og keep hx,?_⟩,?_,fun i d r hi=>by grind,fun x v hx=>Og keep hx⟩
 ·refine⟨Fs++List.replicate s.Gr.length [],⟨by simp[Ba.opens,f1],fun n B F hB hF=> ?_⟩,?_⟩
  ·by_cases hn:n<σ.bx.length
   ·rw[hold n hn]at hB
    rw[ANd (by omega)]at hF;have:=f2 n B F hB hF;cases B with
    |mem cs=>
     obtain⟨rfl,arr,ty,fr,a1,a2,a3⟩:=this;exact⟨rfl,arr,ty,fr,a1,a2,a3.imp fun _ _ hv=>GH keep hv⟩
    |sl d r rows=>exact⟨this.1,by rw[mv n hn];exact this.2⟩
    |dead=>exact this
   ·rw[ANr (by omega)]at hF
    have hF':F=[]:=ATu (ANi hF);subst hF';simp only[Ba.opens]at hB;rw[ANr (by omega),ASJ,AMI]at hB;obtain⟨p,_,rfl⟩:=hB;have hh:E'.Hl n= .slice none 0 0:=by grind
    cases p with
    |mem q=>rfl
    |gone=>rfl
    |sl d r=>exact⟨by omega,by rw[hh];exact qb⟩
  ·have:(Fs++List.replicate s.Gr.length []).flatten=Fs.flatten:=by simp
   rw[this];exact⟨f3.nodup,f3.free,f3.lt,f3.st,f3.cS⟩
 ·refine⟨⟨fun _ h=>h,fun _ h=>h,fun _ h=> .inl h,fun _ h=> .inl h,fun _ _=>rfl,rfl,rfl,rfl,AQW _⟩,hlen,fun b hb=>⟨rfl,mv b hb⟩,fun b hb=> ?_,fun n B B' _ hB TL hd=> ?_⟩
  ·grind
  ·rw[hold n (AMK.1 hB).1,hB]at TL
   cases TL;exact⟨Ux.refl hd,fun _ _=>rfl⟩
theorem Q5.after{t:AA4}{E E' E'':Env}{bx QS ATb:List Bx}{w w':World}(h:Q5 [] E bx w E' QS w)(hb:∀b,b<bx.length→QS[b]? =bx[b]?)(k:Q5 t E' QS w E'' ATb w'):Q5 t E bx w E'' ATb w':=
 ⟨h.base.trans k.base,ASs h.len k.len,fun b Kg=>⟨(k.ids b (ATB Kg h.len)).1.trans (h.ids b Kg).1,(k.ids b (ATB Kg h.len)).2.trans (h.ids b Kg).2⟩,fun b hd=>k.dead b (h.dead b hd),fun n B B' hn hB TL hd=>by
  have Kg:=(AMK.1 hB).1;obtain⟨k1,k2⟩:=k.frame n B B' hn (by simp_all) TL hd;refine⟨k1,fun c hc=>k2 c ?_⟩;cases B with
  |mem cs=>simp only[xq]at hc⊢;rw[(h.ids n Kg).1];omega
  |sl d r rows=>simp only[xq]at hc⊢;rw[(h.ids n Kg).2];omega
  |dead=>exact hc⟩
def AMB(c:QU)(N:Nat)(xs:List XV)(σ:St)(k:K Y):Option Y:=
 match c.ins.fit N c.ins.m0 xs σ.bx with
 |some (v,m)=>(c.g v).bind fun u=>
  let JD:=X6 m σ.bx.length
  let σ1:=σ.ZK m
  k (eI c.outs.Dy u.1 JD) { σ1 with bx:=Zi JD 0 c.outs.Gr u.2 (Ct σ1.bx m) }
 |none=>none
def zK(c:QU)(N:Nat)(xs:List XV)(σ:St):AA4:=
 match c.ins.fit N c.ins.m0 xs σ.bx with
 |some (_,m)=>m.filterMap id
 |none=>[]
theorem zm{f:Nat}{c:QU}(hc:Xe P f c)(h:Rel E σ a w){N0:Nat}(uP:∀(i:Nat) d r,c.ins.Gr[i]? =some (.sl d r)→E.Hl (N0+i)= .slice none 0 0){xs:List XV}{vs:List Value}(hxs:CT (XR E w σ.bx) xs vs)(hlen:xs.length=c.ins.Dy.length)(e:AMB c N0 xs σ k=some y):
  Calls P f vs.toArray w fun e w' => ∃x E' xv σ',e= .returned x∧Rel E' σ' a w'∧XR E' w' σ'.bx xv x∧Q5 (zK c N0 xs σ) E σ.bx w E' σ'.bx w'∧σ'.tm.length=σ.tm.length∧k xv σ' =some y:=by
 obtain⟨Br,_,sb⟩:=hc;simp only[QU.ok,AML]at Br;obtain⟨⟨hk,hslot⟩,hbo⟩:=Br;obtain⟨hklen,hk⟩:=WY hk;unfold AMB at e;split at e
 case h_2=>cases e
 rename_i v m cU;simp only[AMQ]at e;obtain⟨u,hg,e⟩:=e;obtain⟨_,E1,hf⟩:=kH h.bx hxs uP (by simp[Ba.m0]) (AEW _) cU;have PC:vs.toArray.size=c.ins.Dy.length:=by grind[CT.len]
 refine(sb E1 w v vs.toArray u PC hf.boxes (by simpa using hf.Dy) hg).mono fun e' w' hR=> ?_
 obtain⟨x,E',rfl,base,⟨Fs,hFs1,hFs2⟩,Dy,ADn⟩:=hR;simp only[AM5]at hFs2;obtain⟨Fk,k1,k2,k3,k4⟩:=hf.rest;have st:=h.bx.st;have cS:=h.bx.cS;have hM:m.length=c.ins.Gr.length:=hf.len;have all:∀i,i<m.length→ ∃b B,m[i]? =some (some b)∧σ.bx[b]? =some B∧B≠ .dead∧ ∀d r,c.ins.Gr[i]? =some (.sl d r)→ ∃d' rows,B= .sl d' r rows:=by
  intro i hi;have hp:c.ins.Gr[i]? =some (c.ins.Gr[i]'(by omega)):=AL5 _;grind[uU,Option.some.inj]
 let N:=σ.bx.length
 let M:=m.length
 have AIX:∀i b,m[i]? =some (some b)→X6 m N i=b:=fun i b h=>by simp[X6,h]
 have AWH:∀i,M≤i→X6 m N i=N+(i-M):=fun i hi=>by
  grind[List.getElem?_eq_none,X6]
 have ro:wD (X6 m N) M N:=⟨fun i hi=>by
   grind,AWH,fun i j hi hj e=>by
   obtain⟨b,B,h1,h2,_⟩:=all i hi;obtain⟨b',B',h1',h2',_⟩:=all j hj;rw[AIX i b h1,AIX j b' h1']at e;subst e;exact hf.inj i j b h1 h1'⟩
 let E2:Env:={
   Hk:=fun n=>if n<N then E.Hk n else E'.Hk (M+(n-N))
   Hl:=fun n=>if n<N then E.Hl n else E'.Hl (M+(n-N))
   T:=fun c=>E.T c∨E'.S c
   S:=E'.S }
 have hS:∀c,E.S c→E'.S c:=fun d hd=>base.S d (hf.S d hd)
 have hSk:∀d∈Fk.flatten,¬E'.S d:=fun d hd hs=>by
  obtain⟨_,n2,_,n4⟩:=k3 d hd;exact(base.Sof d hs).elim n2 (fun h=>h n4)
 have AEr:∀d,E.T d→w'.heap[d]? =w.heap[d]?:=fun d hd=>base.heap d (hf.T d hd)
 have AWB:∀d∈Fk.flatten,w'.heap[d]? =w.heap[d]?:=fun d hd=>base.heap d (k3 d hd).2.2.2
 have AWT:ck E w E2 w':=⟨fun d hd=> .inl hd,hS,fun d hd=>hd,fun d hd=>by
   rcases base.Sof d hd with h|h
   ·exact hf.Sof d h
   ·exact .inr fun ht=>h (hf.T d ht),AEr,base.os,base.tape,base.output,base.size⟩
 let vw':=Jb.mk id c.outs.Gr u.2
 let Bs:=Jb.mk (X6 m N) c.outs.Gr u.2
 let bk:=(Ct σ.bx m).map (Bx.map (Gj m))
 have hbk:Ct (σ.ZK m).bx m=bk:=by rw[AB4,df]
 have Aer:bk.length=N:=by simp[bk,KO,N]
 let aM:=LX (X6 m N) 0 Bs bk
 have Aes:Zi (X6 m N) 0 c.outs.Gr u.2 (Ct (σ.ZK m).bx m)=aM:=by rw[lk,hbk]
 obtain⟨s1,s2,s3⟩:=fI ro (l:=Bs) (i:=0) (bx:=bk) (by omega);have Aex:Bs.length=c.outs.Gr.length:=TG _;have qG:σ.bx.length≤aM.length:=by
  grind
 have rn:ud E' E2 c.outs.Gr u.2 aM (X6 m N):=by
  refine⟨fun i hi=> ?_,fun i p hp=> ?_,rfl⟩
  ·by_cases him:i<M
   ·obtain⟨b,B,h1,h2,_⟩:=all i him
    have hbl:b<N:=(AMK.1 h2).1;have g1:=hf.ids i b h1;grind
   grind
  ·obtain⟨z,z1,z2⟩:=au (X6 m N) (u:=u.2) hp
   grind
 have AEm:∀n,n<N→some n∉m→aM[n]? =bk[n]?:=fun n hn hm=>by
  grind
 have keep:SW E w σ.bx E2 w' (Ct aM m):=by
  refine⟨by rw[KO];omega,fun b hb=>by grind,fun d hd=> .inl hd,hS,st,AEr,fun b d r rows hb hq=> ?_⟩;have hbm:some b∉m:=fun hm=>by grind[V2]
  rw[Ql hbm,AEm b hb hbm]at hq;have hq1:=AFe hq;have hq2:σ.bx[b]? =some (.sl d r rows):=by
   rcases SM (FH.refl σ.bx) b _ hq1 with e|e
   all_goals grind
  refine⟨d,rows,hq2,fun p hp q ys hgp=>⟨hp,⟨ys,hgp,rfl⟩,fun h' hh=> ?_⟩⟩;have hFk:Fk[b]? =some (Fk[b]'(by rw[k1.1,KO];omega)):=AL5 _;obtain⟨_,ho⟩:=k1.2 b _ _ hq1 hFk;have e2:E2.Hl b=E.Hl b:=by grind
  grind[uE,List.mem_flatten,List.mem_of_getElem?]
 have vr:∀x v,VR E w σ.bx x v→VR E2 w' aM (Gj m x) v:=fun x v hx=>by
  refine ACp keep (fun b d' r Cz hbm hq=> ?_) qG hx;obtain⟨i,hi,him⟩:=AQa hbm;have ASR:m[i]? =some (some b):=by grind
  obtain⟨b',B,h1,h2,h3,h4⟩:=all i hi;rw[ASR]at h1;cases h1;have hio:i<c.outs.Gr.length:=by omega
  have hp:c.outs.Gr[i]? =some c.outs.Gr[i]:=AL5 hio;obtain⟨z,z1,z2⟩:=rn.bx i _ hp;rw[AIX i b ASR,hq]at z2;have AZU:c.ins.Gr[i]? =some (c.ins.Gr[i]'(by omega)):=AL5 _
  generalize c.outs.Gr[i]=po at z hp z1 z2
  cases po with
  |mem q=>simp[BP.mk]at z2
  |gone=>simp[BP.mk]at z2
  |sl d0 q=>
   simp only[BP.mk,AMF,Bx.sl.injEq]at z2;obtain⟨rfl,rfl,z2⟩:=z2;obtain rfl:=ARx z2;obtain⟨d1,hpo⟩:=(hk i _ AZU).2 _ _ hp;obtain⟨d2,rows,rfl⟩:=h4 d1 r (by simp_all);have hbl:b<N:=(AMK.1 h2).1;have eh:E2.Hl b=E.Hl b:=by grind
   refine⟨d2,rows,h2,?_,eh⟩;obtain⟨F0,hR0,_⟩:=h.bx.take h2;have hFi:Fs[i]? =some (Fs[i]'(by rw[hFs1.1,TG];omega)):=AL5 _;obtain⟨_,vZ⟩:=hFs1.2 i _ _ z1 hFi;have hal:alive c.outs.Gr i=true:=by simp[alive,hp]
   rw[(ADn i (by omega) hal).2,(hf.ids i b ASR).2]at vZ;exact yJ (Wo hR0.2) (Wo vZ)
 have fl:c.outs.Gr.all (BP.LS c.outs.Gr)=true:=hbo;have rel:Rel E2 { tm:=(σ.ZK m).tm,bx:=aM } a w':=by
  refine⟨h.NT,?_,?_⟩
  ·rw[sK]
   exact CT.K8 _ (fun x v hx=>ABI vr hx) h.tm
  ·refine dP ro (Fs:=Fs) (by omega) (fun i _ hi=> ?_) (by rw[hFs1.1,TG];omega) (fun j B F hB hF=> ?_) ?_
   ·obtain⟨b,B,h1,h2,_⟩:=all i hi
    rw[AIX i b h1];have hbl:b<(Ct σ.bx m).length:=by grind
    have hd:(Ct σ.bx m)[b]? =some .dead:=by
     rw[AL5 hbl];exact congrArg some (V2 (ANi h1) (AL5 hbl))
    simp only[bk];rw[ASJ,hd];rfl
   ·rw[ATU]
    have qu:=(AMK.1 hB).1;have hp:c.outs.Gr[j]? =some (c.outs.Gr[j]'(by omega)):=AL5 _;obtain⟨z,z1,z2⟩:=au (X6 m N) (u:=u.2) hp;have TL:Bs[j]? =_:=z2;rw[hB]at TL;cases TL;exact ASq rn hp (ATV.1 fl _ (AMh _)) (hFs1.2 j _ _ z1 hF)
   ·
    refine⟨Fk,⟨by simp[bk,k1.1],fun n B F hn hF=> ?_⟩,?_⟩
    ·simp only[bk]at hn
     rw[ASJ,AMI]at hn;obtain⟨B0,hn,rfl⟩:=hn;have vd:n<N:=by grind
     have h3:=k1.2 n B0 F hn hF;have hFw:∀d∈F,w'.heap[d]? =w.heap[d]?:=fun d hd=>AWB d (ASw.2 ⟨F,ANi hF,hd⟩)
     have eb:E2.Hk n=E.Hk n:=by grind
     have eh:E2.Hl n=E.Hl n:=by grind
     cases B0 with
     |mem cs=>
      obtain⟨rfl,arr,ty,fr,ha,hu,hv⟩:=h3;exact⟨by rw[eb],arr,ty,fr,by simp_all,hu,CT.K8 _ vr hv⟩
     |sl d r rows=>
      refine⟨h3.1,?_⟩;rw[eh];exact EX hS (fun d hd=>AEr d (st d hd)) hFw h3.2
     |dead=>exact h3
    ·refine⟨ANN.2 ⟨k2,hFs2.nodup,fun x hx z hz he=> ?_⟩,fun d hd ht=> ?_,fun d hd=> ?_,fun d hd=> .inr hd,fun d hd=> ?_⟩
     ·subst he
      exact hFs2.free x hz (base.T x (k3 x hx).2.2.2)
     ·rcases AOs.1 hd with hd|hd
      ·grind
      ·rcases ht with ht|ht
       ·exact hFs2.free d hd (base.T d (hf.T d ht))
       ·exact hFs2.free d hd (hFs2.st d ht)
     ·rcases AOs.1 hd with hd|hd
      ·grind
      ·exact hFs2.lt d hd
     ·rcases hd with hd|hd
      ·grind
      ·exact hFs2.cS d (hFs2.st d hd)
 have ATl:Q5 (zK c N0 xs σ) E σ.bx w E2 aM w':=by
  refine⟨AWT,qG,fun n hn=>⟨by grind,by grind⟩,fun n hn=> ?_,fun n B B' hnt hB TL qw=> ?_⟩
  rotate_left 1
  ·have vd:=(AMK.1 hB).1
   have tP:some n∉m:=fun hm=>hnt (by
    simp only[zK,cU,List.mem_filterMap];simp_all)
   rw[AEm n vd tP]at TL;simp only[bk]at TL;have hkn:(Ct σ.bx m)[n]? =some B:=by grind[Ql]
   rw[ASJ,hkn]at TL;have TL:Bx.map (Gj m) B=B':=by simp_all
   have hFk:Fk[n]? =some (Fk[n]'(by rw[k1.1,KO];omega)):=AL5 _;refine⟨?_,fun d hd=> ?_⟩
   ·subst TL
    cases B with
    |mem cs=>trivial
    |sl d r rows=>rfl
    |dead=>exact absurd rfl qw
   ·rcases eR (k1.2 n B _ hkn hFk) hd with hs|hs
    all_goals grind[List.mem_flatten,List.mem_of_getElem?]
  have vd:=(AMK.1 hn).1;have tP:some n∉m:=fun hm=>by
   obtain⟨i,hi,him⟩:=AQa hm;grind
  rw[AEm n vd tP];simp only[bk];rw[ASJ,Ql tP,hn];rfl
 refine⟨x,E2,eI c.outs.Dy u.1 (X6 m N),{ tm:=(σ.ZK m).tm,bx:=aM },rfl,rel,rM rn hslot Dy,ATl,by simp[sK],?_⟩;grind
theorem ACP{f:Nat}{c:QU}(hc:Xe P f c)(h:Rel E σ a w){xs:List XV}{vs:List Value}(hxs:CT (XR E w σ.bx) xs vs)(e:l8 c xs σ k=some y):
  Calls P f vs.toArray w fun e w' => ∃x E' xv σ',e= .returned x∧Rel E' σ' a w'∧XR E' w' σ'.bx xv x∧Q5 (eK c xs σ) E σ.bx w E' σ'.bx w'∧σ'.tm.length=σ.tm.length∧k xv σ' =some y:=by
 unfold l8 at e;split at e
 case isFalse=>cases e
 rename_i hlen;obtain⟨E',h1,h2,h3,h4⟩:=tD h c.ins;have hold:∀b,b<σ.bx.length→(c.ins.opens σ.bx)[b]? =σ.bx[b]?:=fun b hb=>by grind[Ba.opens,List.getElem?_append_left]
 refine(zm (N0:=σ.bx.length) hc h1 h3 (hxs.imp fun x v hx=>h4 x v hx) hlen (k:=k) (y:=y) e).mono fun e' w' hR=> ?_
 obtain⟨x,E2,xv,σ',q0,q1,q2,q3,q4,q5⟩:=hR;exact⟨x,E2,xv,σ',q0,q1,q2,h2.after hold q3,q4,q5⟩
end
end Go.Fw
end
section
namespace Go.Fw
def fZ(P:Program)(Γ:Nat→Option QU):Prop:= ∀f c,Γ f=some c→Xe P f c
theorem qy{Γ:Nat→Option QU}{σ:St}{o:Op}(h:oL o=false):KM (fun _=>none) σ o=KM Γ σ o:=by
 cases o with
 |call c=>
  obtain⟨callee,args,rU⟩:=c;cases callee with
  |value f=>simp[oL]at h
  |invoke _ _=>rfl
  |builtin b=>cases b<;>rfl
 |_=>rfl
theorem AVN{Y:Type}{P:Program}{Γ:Nat→Option QU}{o:Oper}{E:Env}{σ:St}{a:Act}{w:World}{k:K Y}{y:Y}{g:Nat}{c:QU}(hsc:Xe P g c)(h:Rel E σ a w){f:Operand}{args:Array Operand}{rU:Array TypeId}
  (ho:o.op= .call { callee:= .value f,args:=args,argTypes:=rU }) {ps:List Value} (Zv:a.eval f= .func (.func g) #[] ps.toArray) {xs:List XV} (H_:CT (XR E w σ.bx) xs (args.toList.map a.eval++ps)) (ht:KM Γ σ o.op=eK c xs σ)
  (e:l8 c xs σ k=some y) {next:Act→World→Prop} {Q:Exit→Act→World→Prop}
  (hn:∀v w' E' x σ',Rel E' σ' a w'→XR E' w' σ'.bx x v→Q5 (KM Γ σ o.op) E σ.bx w E' σ'.bx w'→σ'.tm.length=σ.tm.length→k x σ' =some y→next (a.put o.dst v) w'):o.wp P a w next Q:=by
 have sb:=ACP hsc h H_ e;have iN:(execOp a.eval o).run P w= .ok (.enter g (args.toList.map a.eval++ps).toArray) w:=by
  have e2:(args.map a.eval)++ps.toArray=(args.toList.map a.eval++ps).toArray:=by
   simp_all
  simp only[execOp,ho,resolve,Zv,Deferred.ofValue,Sem.run_bind,Sem.run_pure,Result.andThen_ok,invoke,Array.empty_append,e2,hsc.2.1]
 unfold Oper.wp;rw[iN];simp only[Oper.upon];refine sb.mono fun e w' hR=> ?_
 grind
section
variable{Y:Type} {P:Program} {T:JY} (hT:Eo P T) {Γ:Nat→Option QU} (hΓ:fZ P Γ) {o:Oper} {E:Env} {σ:St} {a:Act} {w:World} {k:K Y} {y:Y}
include hT hΓ
theorem z6(h:Rel E σ a w)(e:WZ T Γ o σ k=some y){next:Act→World→Prop}{Q:Exit→Act→World→Prop}
  (hn:∀v w' E' x σ',Rel E' σ' a w'→XR E' w' σ'.bx x v→Q5 (KM Γ σ o.op) E σ.bx w E' σ'.bx w'→σ'.tm.length=σ.tm.length→k x σ' =some y→next (a.put o.dst v) w'):o.wp P a w next Q:=by
 by_cases hc:oL o.op=false
 ·obtain⟨v,w',E',x,σ',hr,h1,h2,h3,h4,h5⟩:=ACc hT h e hc
  rw[qy hc]at h3;unfold Oper.wp;rcases hr with hr|⟨hr,rfl⟩
  ·rw[hr]
   exact hn v w' E' x σ' h1 h2 h3 h4 h5
  ·rw[hr]
   exact hn _ w' E' x σ' h1 h2 h3 h4 h5
 ·
  unfold oL at hc;split at hc
  case h_2=>simp_all
  rename_i f args rU ho;unfold WZ at e;rw[ho]at e;dsimp only at e;split at e
  case h_3=>cases e
  ·rename_i g J8 hf
   split at e
   case h_2=>cases e
   rename_i c hg;have hv:=h.ev f;rw[hf]at hv;obtain⟨bd,Zv⟩:(∀b∈J8,b<σ.bx.length)∧a.eval f= .func (.func g) #[] (J8.map fun b=>Value.pointer (some ⟨E.Hk b,0,none⟩)).toArray:=hv;have hsc:=hΓ g c hg;have H_:CT (XR E w σ.bx) (args.toList.map σ.ev++J8.map fun b=> .c (.IC b 0)) (args.toList.map a.eval++J8.map fun b=>Value.pointer (some ⟨E.Hk b,0,none⟩)):=by
    refine CT.append (evs h args.toList) ?_
    clear Zv hf e
    induction J8 with
    |nil=>trivial
    |cons b l ih=>exact⟨⟨bd b (by simp),rfl⟩,ih (fun c hc=>bd c (by simp[hc]))⟩
   grind[KM,eK,AVN]
  ·rename_i g rows hf
   split at e
   case h_2=>cases e
   rename_i c hg;have hv:=h.ev f;rw[hf]at hv;obtain⟨ps,Zv,bd⟩:∃ps:List Value,a.eval f= .func (.func g) #[] ps.toArray∧CT (RA E w) rows ps:=hv;have hsc:=hΓ g c hg;have H_:CT (XR E w σ.bx) (args.toList.map σ.ev++rows.map fun q=> .c (.PE false q.1 q.2 0)) (args.toList.map a.eval++ps):=by
    refine CT.append (evs h args.toList) ?_
    clear Zv hf e
    induction rows generalizing ps with
    |nil=>
     cases ps with
     |nil=>trivial
     |cons _ _=>exact bd.elim
    |cons q l ih=>
     cases ps with
     |nil=>exact bd.elim
     |cons p ps=>
      obtain⟨⟨bb,o,cs,h1,h2,h3,h4,h5⟩,bd⟩:=bd;exact⟨⟨bb,o,cs,h1,h2,h3,h4,h5⟩,ih ps bd⟩
   grind[KM,eK,AVN]
end
theorem Rel.tmp{E:Env}{σ:St}{a:Act}{w:World}(h:Rel E σ a w){t:Nat}{x:XV}(e:σ.tm[t]? =some x):∃v,a.tmps[t]? =some v∧XR E w σ.bx x v:=by
 obtain⟨v,h1,h2⟩:=h.tm.get e;simp_all
def AQH:Value→Option Bool
 | .bool b=>some b
 |_=>none
theorem aT{ops:Array Oper}{tmps:Array Value}{j t:Nat}(e:(ops[j]?).bind (·.dst)=some t){v:Value}(hv:tmps[t]? =some v):yielded ops tmps j=AQH v:=by
 simp only[yielded,e,AMv,hv];cases v<;>rfl
theorem oC{E:Env}{w:World}{vw:List Bx}:XR E w vw (.MH []) undef:=⟨#[],rfl,trivial⟩
structure Ok (E0:Env) (w0:World) (N nb:Nat) (E:Env) (σ:St) (a:Act) (w:World):Prop where
 rel:Rel E σ a w
 base:ck E0 w0 E w
 tm:σ.tm.length=N
 qp:nb≤σ.bx.length
 ids:∀i,i<nb→σ.bx[i]?≠some .dead→E.Hk i=E0.Hk i∧E.Hl i=E0.Hl i
theorem Ok.next{E0 E E':Env}{w0 w w':World}{N nb:Nat}{σ σ':St}{a a':Act}{t:AA4}(h:Ok E0 w0 N nb E σ a w)(hr:Rel E' σ' a' w')(hw:Q5 t E σ.bx w E' σ'.bx w')(hl:σ'.tm.length=σ.tm.length):Ok E0 w0 N nb E' σ' a' w':=
 ⟨hr,h.base.trans hw.base,hl.trans h.tm,ASs h.qp hw.len,fun i hi hd=>by
  have h1:=hw.ids i (ATB hi h.qp);have h2:=h.ids i hi (fun hh=>hd (hw.dead i hh));simp_all⟩
theorem Ok.put{E0 E:Env}{w0 w:World}{N nb:Nat}{σ:St}{a:Act}(h:Ok E0 w0 N nb E σ a w)(dst:Option Tmp){x:XV}{v:Value}(hx:XR E w σ.bx x v):Ok E0 w0 N nb E (σ.put dst x) (a.put dst v) w:=by
 have e1:(σ.put dst x).bx=σ.bx:=by cases dst<;>rfl
 have e2:(σ.put dst x).tm.length=σ.tm.length:=by cases dst<;>simp[St.put]
 refine⟨h.rel.put dst hx,h.base,e2.trans h.tm,by rw[e1];exact h.qp,fun i hi hd=>h.ids i hi (by simp_all)⟩
theorem Ok.same{E0 E:Env}{w0 w:World}{N nb:Nat}{σ σ1:St}{a:Act}(h:Ok E0 w0 N nb E σ a w)(hr:Rel E σ1 a w)(hb:σ1.bx=σ.bx)(hl:σ1.tm.length=σ.tm.length):Ok E0 w0 N nb E σ1 a w:=
 ⟨hr,h.base,hl.trans h.tm,by rw[hb];exact h.qp,fun i hi hd=>h.ids i hi (by simp_all)⟩
end Go.Fw
end
section
namespace Go.Fw
section
variable{Y:Type}
abbrev k0:K (XV×St):=fun x σ=>some (x,σ)
theorem ABm{op:BinOp}{κ:IntKind}{a b:Int}(k:AV→Option Y):fC op κ a b k=(fC op κ a b some).bind k:=by
 cases op<;>simp[fC]<;>split<;>rfl
theorem wW{op:BinOp}{κ:IntKind}{a b:Int}(k:AV→Option Y):X4 op κ a b k=(X4 op κ a b some).bind k:=by
 unfold X4;grind
theorem ABc{op:BinOp}{a b:ACC}(k:AV→Option Y):jI op a b k=(jI op a b some).bind k:=by
 cases op<;>simp[jI]<;>split<;>rfl
theorem pP{T:JY}{t:Nat}{op:BinOp}{a b:XV}(k:AV→Option Y):wt T t op a b k=(wt T t op a b some).bind k:=by
 unfold wt;grind[wW,ABm,ABc]
theorem uY{op:UnOp}{a:XV}(k:AV→Option Y):unX op a k=(unX op a some).bind k:=by
 unfold unX;grind
theorem aD{g:Bool}{a b:XV}(k:AV→Option Y):tQ g a b k=(tQ g a b some).bind k:=by
 unfold tQ;grind
theorem K3{len:Nat}{lo hi:Option XV}(k:Nat→Nat→Option Y):OJ len lo hi k=(OJ len lo hi fun l h=>some (l,h)).bind fun p=>k p.1 p.2:=by
 unfold OJ;grind
theorem yE{T:JY}{t:Nat}{σ:St}{x:XV}{lo hi:Option XV}(k:K Y):jj T t σ x lo hi k=(jj T t σ x lo hi k0).bind fun p=>k p.1 p.2:=by
 unfold jj;split
 ·split
  ·rw[K3,K3 (Y:=XV×St),AUr];rfl
  ·rfl
 ·split
  ·rw[K3,K3 (Y:=XV×St),AUr];rfl
  ·rfl
 ·split
  ·split
   ·rw[K3,K3 (Y:=XV×St),AUr];rfl
   ·rfl
  ·rfl
 ·rfl
theorem yd{T:JY}{t:Nat}{σ:St}{x i:XV}(k:K Y):kE σ T t x i k=(kE σ T t x i k0).bind fun p=>k p.1 p.2:=by
 unfold kE;grind
theorem rY{T:JY}{t:Nat}{σ:St}{x i:XV}(k:K Y):WJ T t σ x i k=(WJ T t σ x i k0).bind fun p=>k p.1 p.2:=by
 unfold WJ;grind
theorem ABk{T:JY}{s d:Nat}{σ:St}{x:XV}(k:K Y):sE T s d σ x k=(sE T s d σ x k0).bind fun p=>k p.1 p.2:=by
 unfold sE;grind
theorem ACY{T:JY}{t:Nat}{σ:St}{l c:XV}(k:K Y):tC T t σ l c k=(tC T t σ l c k0).bind fun p=>k p.1 p.2:=by
 grind[tC]
theorem nM{T:JY}{t n:Nat}{ps:List (Nat×XV)}{σ:St}(k:K Y):Qu T t n ps σ k=(Qu T t n ps σ k0).bind fun p=>k p.1 p.2:=by
 grind[Qu,Option.bind_assoc]
theorem wC{T:JY}{ts:Array TypeId}{σ:St}{a x:XV}(k:K Y):dx T ts σ a x k=(dx T ts σ a x k0).bind fun p=>k p.1 p.2:=by
 unfold dx;split
 all_goals grind
theorem zQ{T:JY}{ts:Array TypeId}{σ:St}{x:XV}(k:K Y):j0 T ts σ x k=(j0 T ts σ x k0).bind fun p=>k p.1 p.2:=by
 unfold j0;grind
theorem AC4{c:QU}{xs:List XV}{σ:St}(k:K Y):l8 c xs σ k=(l8 c xs σ k0).bind fun p=>k p.1 p.2:=by
 grind[l8,Option.bind_assoc]
theorem xc{σ:St}{x:XV}(k:K Y):ai σ x k=(ai σ x k0).bind fun p=>k p.1 p.2:=by
 unfold ai;grind
theorem ABX{T:JY}{Γ:Nat→Option QU}{o:Oper}{σ:St}(k:K Y):WZ T Γ o σ k=(WZ T Γ o σ k0).bind fun p=>k p.1 p.2:=by
 unfold WZ;split
 ·rfl
 ·exact xc k
 ·split
  ·rename_i x _
   cases x<;>rfl
  ·rfl
 ·grind
 ·grind
 ·grind
 ·exact nM k
 ·grind
 ·grind
 ·grind
 ·rw[pP,pP (Y:=XV×St),AUr];rfl
 ·rw[uY,uY (Y:=XV×St),AUr];rfl
 ·exact ABk k
 ·grind
 ·exact ACY k
 ·exact yE k
 ·grind
 ·grind
 ·exact yd k
 ·exact rY k
 ·grind
 ·grind[AC4]
 ·grind
 ·grind[wC]
 ·grind[zQ]
 ·split
  ·rw[aD,aD (Y:=XV×St),AUr];rfl
  ·rfl
 ·split
  ·rw[aD,aD (Y:=XV×St),AUr];rfl
  ·rfl
 ·rfl
theorem kF{I:Type}[Nonempty I]{T:JY}{Γ:Nat→Option QU}{o:Oper}{σ:St}{k:I→K Y}{y:Y}(h:∀i,WZ T Γ o σ (k i)=some y):∃x σ',WZ T Γ o σ k0=some (x,σ')∧ ∀i,k i x σ' =some y:=by
 obtain⟨i0⟩:= ‹Nonempty I›;have h0:=h i0;grind[ABX,Option.bind_eq_some_iff]
end
end Go.Fw
end
section
namespace Go.Fw
def WF{α:Type}(P:Program)(s:Sem α):Prop:= ∀w v w1,s.run P w= .ok v w1→ ∀w',s.run P w' = .ok v w'
section
variable{α β:Type} {P:Program}
theorem WF.pure(x:α):WF P (Pure.pure x:Sem α):=fun w v w1 h w' =>by
 simp_all
theorem WF.bind{s:Sem α}{f:α→Sem β}(h:WF P s)(k:∀v,WF P (f v)):WF P (s >>= f):=fun w v w1 e w' =>by
 rw[Sem.run_bind]at e⊢;cases hs:s.run P w with
 |ok u w2=>
  rw[hs]at e;simp only[Result.andThen_ok]at e;rw[h w u w2 hs w'];simp only[Result.andThen_ok];exact k u w2 v w1 e w'
 |halt x w2=>
  simp_all
theorem WF.halt(x:Halt):WF P (.halt x:Sem α):=fun w v w1 e w' =>by simp_all
theorem WF.program:WF P program:=fun w v w1 e w' =>by
 simp_all
theorem WF.typeInfo(t:TypeId):WF P (typeInfo t):=WF.bind WF.program fun p=>by
 split
 ·exact WF.pure _
 ·exact WF.halt _
theorem WF.underlying(t:TypeId):WF P (underlying t):=WF.bind WF.program fun p=>by
 split
 ·exact WF.pure _
 ·exact WF.halt _
theorem WF.sizeOf(t:TypeId):WF P (Go.sizeOf t):=WF.bind (WF.typeInfo t) fun _=>WF.pure _
theorem WF.isAgg(t:TypeId):WF P (isAgg t):=WF.bind (WF.underlying t) fun d=>by
 grind[WF.pure]
theorem WF.zeroValue(t:TypeId):WF P (zeroValue t):=WF.bind (WF.typeInfo t) fun i=>by
 split
 ·exact WF.pure _
 ·exact WF.halt _
theorem WF.asIntOf(v:Value):WF P (asIntOf v):=by
 unfold Go.asIntOf;split
 ·exact WF.pure _
 ·exact WF.halt _
 ·exact WF.halt _
theorem WF.asBool(v:Value):WF P (asBool v):=by
 unfold Go.asBool;split
 ·exact WF.pure _
 ·exact WF.halt _
theorem WF.asAgg(v:Value):WF P (asAgg v):=by
 unfold Go.asAgg;split
 ·exact WF.pure _
 ·exact WF.halt _
theorem WF.sureAddr(v:Value):WF P (Instr.sureAddr v):=by
 unfold Instr.sureAddr;split
 ·exact WF.pure _
 ·exact WF.halt _
theorem WF.wK{s:Sem α}(h:∀w v w1,s.run P w≠ .ok v w1):WF P s:=fun w v w1 e=>absurd e (h w v w1)
theorem XZ{s:Sem α}{f:α→Sem β}(h:∀x w v w1,(f x).run P w≠ .ok v w1):∀w v w1,(s >>= f).run P w≠ .ok v w1:=fun w v w1 e=>by
 rw[Sem.run_bind]at e;cases hs:s.run P w with
 |ok u w2=>simp_all
 |halt x w2=>simp_all
theorem gI(x:Halt):∀w v w1,(.halt x:Sem α).run P w≠ .ok v w1:=fun w v w1 e=>by simp_all
theorem lY(e:RuntimeError):∀w v w1,(runtimePanic e:Sem α).run P w≠ .ok v w1:=by
 unfold runtimePanic;refine XZ fun p=> ?_
 dsimp only;split<;>first
  |exact gI _
  |exact XZ fun _=>XZ fun _=>gI _
  |exact XZ fun _=>gI _
theorem WF.bounds(k:IntKind)(x y:Int)(c:BoundsCode):WF P (boundsPanic k x y c:Sem α):=WF.wK (by
 grind[boundsPanic,XZ,lY])
theorem WF.part(t:TypeId)(cs:Array Value)(o:Nat):WF P (part t cs o):=WF.bind (WF.isAgg t) fun b=>by
 split
 ·grind[WF.bind,WF.sizeOf,WF.pure]
 ·split
  ·exact WF.pure _
  ·exact WF.halt _
theorem WF.field(t:TypeId)(x:Value)(f:Nat):WF P (Instr.field t x f):=WF.bind (WF.underlying t) fun d=>by
 split
 ·split
  ·grind[WF.bind,WF.asAgg,WF.part]
  ·exact WF.halt _
 ·exact WF.halt _
theorem WF.indexAt(t:TypeId)(x i:Value):WF P (Instr.indexAt t x i):=WF.bind (WF.asIntOf i) fun q=>by
 obtain⟨k,i⟩:=q;dsimp only;refine WF.bind (WF.underlying t) fun d=> ?_
 have rest:∀q:Option Addr×Nat×TypeId,WF P (do
   let d←Go.underlying t
   match q.1 with
   |some a=>
    if 0≤i∧i<(q.2.1:Int)then do
     let s←Go.sizeOf q.2.2
     Pure.pure (Value.pointer (some (a.add (i.toNat*s))))
    else if(decide (q.2.1≤1)&&(match d with| .array .. =>true|_=>false))=true then unsupported (.noEntry "op/indexAddr.an index out of range at an array of length 0 or 1 (ledger 616)")
    else boundsPanic k i q.2.1 .index
   |none=>boundsPanic k i 0 .index:Sem Value):=fun q=>by
  refine WF.bind (WF.underlying t) fun d=> ?_
  split
  ·split
   ·grind[WF.bind,WF.sizeOf,WF.pure]
   ·repeat' split
    all_goals first|exact WF.halt _|exact WF.bounds _ _ _ _
  grind[WF.bounds]
 split
 ·exact WF.bind (WF.sureAddr _) fun _=>WF.bind (WF.pure _) fun q=>rest q
 ·exact WF.bind (WF.pure _) fun q=>rest q
 ·exact WF.bind (WF.halt _) fun q=>rest q
theorem WF.index(t:TypeId)(x i:Value):WF P (Instr.index t x i):=WF.bind (WF.asIntOf i) fun q=>by
 obtain⟨k,i⟩:=q;dsimp only;refine WF.bind (WF.underlying t) fun d=> ?_
 split
 ·grind[WF.bind,WF.sizeOf,WF.part,WF.bounds]
 ·grind[WF.pure,WF.bounds]
 ·exact WF.halt _
theorem WF.extract(x:Value)(i:Nat):WF P (Instr.extract x i):=by
 unfold Instr.extract;split
 ·split
  ·exact WF.pure _
  ·exact WF.halt _
 ·exact WF.halt _
theorem WF.sliceBound(x:Value)(y:Nat)(c:BoundsCode):WF P (Instr.sliceBound x y c):=WF.bind (WF.asIntOf x) fun q=>by
 grind[WF.pure,WF.bounds]
theorem WF.sliceBounds(b:Bool)(len cap:Nat)(l h:Option Value):WF P (Instr.sliceBounds b len cap l h none):=by
 cases h with
 |none=>
  cases l with
  |none=>exact WF.bind (WF.pure _) fun _=>WF.bind (WF.pure _) fun _=>WF.bind (WF.pure _) fun _=>WF.pure _
  |some l=>exact WF.bind (WF.pure _) fun _=>WF.bind (WF.pure _) fun _=>WF.bind (WF.sliceBound _ _ _) fun _=>WF.pure _
 |some h=>
  cases l with
  |none=>exact WF.bind (WF.pure _) fun _=>WF.bind (WF.sliceBound _ _ _) fun _=>WF.bind (WF.pure _) fun _=>WF.pure _
  |some l=>exact WF.bind (WF.pure _) fun _=>WF.bind (WF.sliceBound _ _ _) fun _=>WF.bind (WF.sliceBound _ _ _) fun _=>WF.pure _
theorem WF.asAddr(v:Value):WF P (asAddr v):=by
 unfold Go.asAddr;split
 ·exact WF.pure _
 ·exact WF.wK (lY _)
 ·exact WF.halt _
theorem WF.slice(t:TypeId)(x:Value)(l h:Option Value):WF P (Instr.slice t x l h none):=WF.bind (WF.underlying t) fun d=>by
 split
 ·grind[WF.bind,WF.sliceBounds,WF.pure]
 ·grind[WF.bind,WF.sliceBounds,WF.sizeOf,WF.pure]
 ·refine WF.bind (WF.asAddr _) fun _=>WF.bind (WF.underlying _) fun d=> ?_
  split
  ·grind[WF.bind,WF.sliceBounds,WF.sizeOf,WF.pure]
  ·exact WF.halt _
 ·exact WF.halt _
theorem WF.sliceAt(t:TypeId)(x:Value)(l h:Option Value):WF P (Instr.sliceAt t x l h none):=WF.bind (WF.underlying t) fun d=>by
 grind[WF.bind,WF.sureAddr,WF.sliceBounds,WF.sizeOf,WF.pure,WF.slice]
theorem WF.sA{f:α→Sem β}(h:∀x,WF P (f x)):∀l:List α,WF P (l.mapM f)
 |[]=>WF.pure _
 |x::l=>by
  rw[AXf];exact WF.bind (h x) fun _=>WF.bind (WF.sA h l) fun _=>WF.pure _
theorem WF.mapM{f:α→Sem β}(h:∀x,WF P (f x))(a:Array α):WF P (a.mapM f):=by
 rw[Array.mapM_eq_mapM_toList,←bind_pure_comp];grind[WF.bind,WF.sA,WF.pure]
theorem WF.build(t:TypeId)(ps:Array (Nat×Value)):WF P (Instr.build t ps):=WF.bind (WF.zeroValue t) fun z=>by
 refine WF.bind (WF.underlying t) fun d=> ?_
 split
 ·refine WF.bind (WF.mapM (fun f=>WF.bind (WF.sizeOf _) fun _=>WF.pure _) _) fun _=> ?_
  split
  ·exact WF.pure _
  ·exact WF.halt _
 ·refine WF.bind (WF.sizeOf _) fun _=> ?_
  split
  ·exact WF.pure _
  ·exact WF.halt _
 ·exact WF.halt _
end
end Go.Fw
end
section
namespace Go.Fw
def Kof(hint:AA4)(E:Env)(w:World)(bx:List Bx)(c:Nat):Prop:=E.T c∨ ∃n B,n∈hint∧bx[n]? =some B∧xq E w n B c
def pX(K:Nat→Prop)(w w':World):Prop:= ∀c,K c→w'.heap[c]? =w.heap[c]?
theorem zt{w:World}{B:Nat→Prop}:∀{p:List WN} {r:Ty} {h:Value} {rows:List r.D} {q:Ty} {ys:List q.D} {bb o len cap i:Nat},Rd w B (.sl r) [h] rows→DA r rows p→Gy r rows p=some ⟨q,ys⟩→
  Ij w h p=some (.slice (some ⟨bb,o,none⟩) len cap)→i<ys.length→RB w (.sl r) [h] rows bb
 |[],r,h,rows,q,ys,bb,o,len,cap,i,hr,hp,hg,hh,hi=>by
  rw[C8]at hh;cases hh;simp only[Gy,AMF,AM9]at hg;obtain⟨rfl,hg⟩:=hg;obtain rfl:=ARx hg;simp only[RB];grind
 |s::p,r,h,rows,q,ys,bb,o,len,cap,i,hr,hp,hg,hh,hi=>by
  simp only[DA]at hp;obtain⟨hsi,PC,hp⟩:=hp;simp only[Rd]at hr;obtain⟨a,cap',e1,_,hr⟩:=hr;obtain rfl:=(List.cons.inj e1).1;rcases hr with hr|⟨b',o',rfl,hb,hr⟩
  ·omega
  obtain⟨cs,hl,hc,hrow⟩:=hr s.i _ (Qc hsi);simp only[Gy]at hg;split at hg
  case h_2=>cases hg
  rename_i q' x fz;rw[fz]at hp;dsimp only at hp;obtain⟨v,hv,hrv⟩:=eS hrow fz;have hcv:=hc _ _ hv;rw[←PC]at hcv;simp only[Ij,hcv]at hh;have:=zt hrv hp hg hh hi;simp only[RB];refine⟨b',o',_,cap',rfl,by omega,.inr ⟨s.i,_,cs,Qc hsi,hl,hc,?_⟩⟩;clear hc hcv e1 hr;exact RB_cell hrow fz hv this
where
 RB_cell {w:World} {B:Nat→Prop} {c:Nat}:∀{r:Ty} {cs:List Value} {x:r.D} {j:Nat} {t:Ty} {y:t.D} {v:Value},Rd w B r cs x→BR r j x=some ⟨t,y⟩→cs[j]? =some v→RB w t [v] y c→RB w r cs x c
 | .cons c r,cs,x,0,t,y,v,h,e,hv,k=>by
  simp only[Rd]at h;obtain⟨u,l,rfl,h1,h2⟩:=h;simp only[BR,AMF,AM9]at e;obtain⟨rfl,e⟩:=e;obtain rfl:=ARx e;simp at hv;subst hv;simp only[RB];grind
 | .cons c r,cs,x,j+1,t,y,v,h,e,hv,k=>by
  simp only[Rd]at h;obtain⟨u,l,rfl,h1,h2⟩:=h;simp only[BR]at e;have:=RB_cell h2 e (by simp_all) k;simp only[RB];grind
 | .int k,cs,x,0,t,y,v,h,e,hv,k' =>by
  simp only[BR,AMF,AM9]at e;obtain⟨rfl,_⟩:=e;simp[RB]at k'
 | .bool,cs,x,0,t,y,v,h,e,hv,k' =>by
  simp only[BR,AMF,AM9]at e;obtain⟨rfl,_⟩:=e;simp[RB]at k'
 | .str,cs,x,0,t,y,v,h,e,hv,k' =>by
  simp only[BR,AMF,AM9]at e;obtain⟨rfl,_⟩:=e;simp[RB]at k'
 | .sl r,cs,x,0,t,y,v,h,e,hv,k=>by
  simp only[BR,AMF,AM9]at e;obtain⟨rfl,e⟩:=e;obtain rfl:=ARx e;have hl:=lQ h;simp only[Ty.n]at hl;obtain⟨u,rfl⟩:=List.length_eq_one_iff.1 hl;simp_all
 | .unit,_,_,_,_,_,_,_,e,_,_=>by simp[BR]at e
 | .int _,_,_,_+1,_,_,_,_,e,_,_=>by simp[BR]at e
 | .bool,_,_,_+1,_,_,_,_,e,_,_=>by simp[BR]at e
 | .str,_,_,_+1,_,_,_,_,e,_,_=>by simp[BR]at e
 | .sl _,_,_,_+1,_,_,_,_,e,_,_=>by simp[BR]at e
section
variable{P:Program} {T:JY} (hT:Eo P T) {E:Env} {w:World}
include hT
theorem tE{σ:St}{Fs:List AA4}(hB:NB E w σ.bx σ.bx Fs)(st:∀c,E.S c→E.T c){t:Nat}{x:AV}{z:XV}(e:mB T t σ (.c x)=some z){v:Value}(hx:VR E w σ.bx x v):
  ∃bb oo u y,v= .pointer (some ⟨bb,oo,none⟩)∧I2 σ.bx x 0=some y∧XR E w σ.bx z u∧ ∀w',w'.heap[bb]? =w.heap[bb]?→(Instr.loadAt t v).run P w' = .ok u w':=by
 unfold mB at e;split at e
 case h_2=>cases e
 rename_i x' ti zo Um;cases zo;split at e
 case isTrue=>cases e
 rename_i PC;have je:=fun w=>Eo.isAgg hT Um w
 split at e
 ·rename_i ha
  simp only[AMI]at e;obtain⟨l,hl,rfl⟩:=e;obtain⟨h1,h2⟩:=bA hl;have h0:0<l.length:=by omega
  obtain⟨b,o,u,hv,_,_⟩:=Lg hB st (h2 0 _ (AL5 h0)) hx;obtain⟨cs,c1,c2,c3⟩:=dB hB st hx hv (l:=l) (j:=0) (fun i y hy=>by simp_all);subst hv;have iq:=(hT t ti Um).und;cases hd:ti.desc with
  |st fs=>
   rw[hd]at iq;obtain⟨fields,hu,_⟩:=iq;refine⟨b,o,.agg cs.toArray,_,rfl,by simpa using h2 0 _ (AL5 h0),⟨cs.toArray,rfl,by omega⟩,fun w' hw=>run_loadAt_mid w' b o t cs _ (by have:=c2.of_block hw;grind[Bc,World.rangeAt]) hu rfl ?_⟩;grind[Eo.size]
  |_=>grind[TD.agg]
 ·rename_i ha
  simp only[APC]at ha;simp only[AMI]at e;obtain⟨y,hy,rfl⟩:=e;obtain⟨b,o,u,hv,hc,hr⟩:=Lg hB st hy hx;subst hv;refine⟨b,o,u,y,rfl,hy,hr,fun w' hw=> ?_⟩;have ANB:=je w';rw[ha]at ANB;simp only[AUN]at hc;have Zb:w'.cell? ⟨b,o,none⟩=some u:=by grind[World.cell?_of_block]
  simp[Instr.loadAt,Instr.sureAddr,loadVar,ANB,Zb]
end
theorem wm{E E':Env}{w w':World}{vw vw':List Bx}{t:Ty}{x:t.D}{v:Value}(h:VR E w vw (.v t x) v):VR E' w' vw' (.v t x) v:=by
 obtain⟨h1,h2⟩:=h;refine⟨h1,?_⟩;cases t<;>simp_all[Ty.scalar,Rd]
theorem iT{E E':Env}{w w':World}{vw vw':List Bx}{t:Ty}{x:t.D}{v u:Value}(h:VR E w vw (.v t x) v)(k:VR E' w' vw' (.v t x) u):v=u:=by
 obtain⟨h1,h2⟩:=h;obtain⟨_,k2⟩:=k;cases t<;>simp_all[Ty.scalar,Rd]
def kc(x:XV):Prop:=(∃t z,x= .c (.v t z))∨(∃l,x= .agg l∧ ∀c∈l,∃t z,c= .v t z)
theorem MB{E E':Env}{w w':World}{vw vw':List Bx}{x:XV}{v:Value}(hp:kc x)(h:XR E w vw x v):XR E' w' vw' x v:=by
 rcases hp with⟨t,z,rfl⟩|⟨l,rfl,hl⟩
 ·exact wm (E:=E) (w:=w) (vw:=vw) (E':=E') (w':=w') (vw':=vw') h
 ·obtain⟨vs,rfl,VC⟩:=h
  refine⟨vs,rfl,?_⟩
  generalize vs.toList=m at VC
  induction l generalizing m with
  |nil=>cases m with
   |nil=>trivial
   |cons _ _=>exact VC.elim
  |cons c l ih=>cases m with
   |nil=>exact VC.elim
   |cons u m=>
    obtain⟨t,z,rfl⟩:=hl c (by simp);exact⟨wm VC.1,ih (fun c hc=>hl c (by simp[hc])) m VC.2⟩
theorem tv{d:TD}{x z:AV}{p:Bool}(e:oV d x z=some p):(∃t y,x= .v t y)∧ ∃t y,z= .v t y:=by
 unfold oV at e;grind
theorem ZS{T:JY}:∀{i:Nat} {fs:List AC7} {l m:List AV} {r:Bool},Kt T i fs l m=some r→(∀c∈l,∃t z,c= .v t z)∧ ∀c∈m,∃t z,c= .v t z
 |i,[],[],[],r,e=>by simp
 |i,(o,t)::fs,x::l,z::m,r,e=>by
  simp only[Kt]at e;split at e
  case isFalse=>cases e
  split at e
  case h_2=>cases e
  split at e
  case h_2=>cases e
  rename_i p hp;simp only[AMI]at e;obtain⟨r',e1,_⟩:=e;obtain⟨a1,a2⟩:=tv hp;obtain⟨b1,b2⟩:=ZS e1;simp_all
 |_,[],[],_::_,_,e=>by simp[Kt]at e
 |_,[],_::_,_,_,e=>by simp[Kt]at e
 |_,_::_,[],_,_,e=>by simp[Kt]at e
 |_,_::_,_::_,[],_,e=>by simp[Kt]at e
theorem AIJ{op:BinOp}{κ:IntKind}{a b:Int}{r:AV}(e:fC op κ a b some=some r):∃t x,r= .v t x:=by
 cases op<;>simp only[fC,AMF]at e<;>first
  |exact⟨_,_,e.symm⟩
  |(grind)
  |cases e
theorem ACH{op:BinOp}{κ:IntKind}{a b:Int}{r:AV}(e:X4 op κ a b some=some r):∃t x,r= .v t x:=by
 unfold X4 at e;grind
theorem AKB{op:BinOp}{a b:ACC}{r:AV}(e:jI op a b some=some r):∃t x,r= .v t x:=by
 cases op<;>simp only[jI,AMF]at e<;>first
  |exact⟨_,_,e.symm⟩
  |(
   split at e
   all_goals grind)
  |cases e
theorem ARN{T:JY}{t:Nat}{op:BinOp}{a b:XV}{r:AV}(e:wt T t op a b some=some r):(∃t x,r= .v t x)∧kc a∧kc b:=by
 unfold wt at e;split at e
 ·refine⟨?_,.inl ⟨_,_,rfl⟩,.inl ⟨_,_,rfl⟩⟩
  grind[ACH,AIJ]
 ·exact⟨AKB e,.inl ⟨_,_,rfl⟩,.inl ⟨_,_,rfl⟩⟩
 ·refine⟨?_,.inl ⟨_,_,rfl⟩,.inl ⟨_,_,rfl⟩⟩
  grind
 ·split at e
  ·rename_i hq
   rw[AMQ]at hq;obtain⟨fs,_,hq⟩:=hq;obtain⟨q1,q2⟩:=ZS hq;cases e;exact⟨⟨_,_,rfl⟩,.inr ⟨_,rfl,q1⟩,.inr ⟨_,rfl,q2⟩⟩
  ·rename_i hq
   rw[AMQ]at hq;obtain⟨fs,_,hq⟩:=hq;obtain⟨q1,q2⟩:=ZS hq;cases e;exact⟨⟨_,_,rfl⟩,.inr ⟨_,rfl,q1⟩,.inr ⟨_,rfl,q2⟩⟩
  simp_all
 simp_all
theorem AD5{g:Bool}{a b:XV}{r:AV}(e:tQ g a b some=some r):(∃t x,r= .v t x)∧kc a∧kc b:=by
 unfold tQ at e;split at e
 ·refine⟨?_,.inl ⟨_,_,rfl⟩,.inl ⟨_,_,rfl⟩⟩
  grind
 simp_all
theorem AU_{op:UnOp}{a:XV}{r:AV}(e:unX op a some=some r):(∃t x,r= .v t x)∧kc a:=by
 unfold unX at e;split at e
 ·cases e;exact⟨⟨_,_,rfl⟩,.inl ⟨_,_,rfl⟩⟩
 ·cases e;exact⟨⟨_,_,rfl⟩,.inl ⟨_,_,rfl⟩⟩
 simp_all
section
variable{Y:Type} {P:Program} {T:JY} (hT:Eo P T) {Γ:Nat→Option QU} {o:Oper} {E:Env} {σ:St} {a:Act} {w:World} {k:K Y} {y:Y}
include hT
theorem ACu(h:Rel E σ a w){t:TypeId}(ps:Array (Nat×Operand)){s b:Nat}{fs:List AC7}{rw:Option Ty}(Um:T.get t=some ⟨s,b,.st fs,rw⟩){r:Ty}(hr:T.jT t=some r)
  {cs:List AV} (hb:fk T fs (ay r) (ps.toList.map fun q=>(q.1,σ.ev q.2))=some cs):
  ∃KI,(∀w',(Instr.build t (ps.map fun(i,x)=>(i,a.eval x))).run P w' = .ok (.agg KI) w')∧iz E w σ.bx cs KI.toList:=by
 obtain⟨i,z,h1,h2,h3,_⟩:=row_zero hT hr;obtain⟨fields,hu,hfs,PC⟩:=ALR hT Um;obtain⟨KI,f1,f2⟩:=aV hT (oN h ps) (arr:=z.cells) (by grind[Yv]) hb;refine⟨KI,fun w' => ?_,f2⟩;have hb:P.built t (ps.map fun(i,x)=>(i,a.eval x)).toList=some KI:=by
  unfold Program.built;simp only[h1,hu,h2];have hm:fields.toList.mapM (fun f=>(P.info? f.type).map fun i=>(f.offset,i.size))=some (fields.toList.map fun f=>(f.offset,((P.info? f.type).map (·.size)).getD 0)):=by
   grind[ph]
  simp only[hm];rw[←f1];congr 1;funext n;subst hfs;simp only[List.getElem?_toArray,ASJ];cases hn:fields.toList[n]? with
  |none=>simp
  |some f=>
   obtain⟨i',Dd,_⟩:=PC f (ANi hn);simp[Dd]
 grind[run_build]
theorem yq{hint:AA4}(h:Rel E σ a w)(hq:jB hint σ o.op=true)(e:WZ T Γ o σ k=some y):
  ∃v x,XR E w σ.bx x v∧k x σ=some y∧ ∀w',pX (Kof hint E w σ.bx) w w'→(execOp a.eval o).run P w' = .ok (.value v) w':=by
 obtain⟨Fs,hB,hS⟩:=h.bx;have st:=hS.st;have wf:∀{s:Sem Value} {v:Value},WF P s→s.run P w= .ok v w→ ∀w',s.run P w' = .ok v w':=fun h1 h2 w' =>h1 w _ w h2 w'
 unfold WZ at e;split at e
 ·rename_i x ho
  exact⟨a.eval x,_,h.ev x,e,fun w' _=>by grind[execOp,Sem.run_pure]⟩
 ·rename_i x ho
  unfold ai at e;split at e
  ·grind[jB]
  ·exact⟨a.eval x,_,h.ev x,e,fun w' _=>by grind[execOp,Sem.run_pure]⟩
 ·rename_i c xa xb ho
  split at e
  case h_2=>cases e
  rename_i p hp;have hc:=h.ev c;rw[hp]at hc;have Zb:=Rg (E:=E) (w:=w) (vw:=σ.bx) hc;refine⟨if p then a.eval xa else a.eval xb,if p then σ.ev xa else σ.ev xb,by cases p<;>simp[h.ev],by grind[ADt],fun w' _=>by simp[execOp,ho,Zb,asBool]⟩
 ·rename_i t ho;rw[ho]at hq;cases hq
 ·rename_i t x ho;rw[ho]at hq;cases hq
 ·rename_i t ps ho
  split at e
  case h_2=>cases e
  rename_i s b fs rw r Um hr;split at e
  case h_2=>cases e
  rename_i cs wi;obtain⟨KI,h1,h2⟩:=ACu hT h ps Um hr wi;exact⟨.agg KI,.agg cs,⟨KI,rfl,h2⟩,e,fun w' _=>by grind[execOp,Sem.run_bind,Result.andThen_ok,Sem.run_pure]⟩
 ·rename_i t n ps ho;rw[ho]at hq;cases hq
 ·rename_i t x ho
  rw[ho]at hq;split at e
  case h_2=>cases e
  rename_i z hz;have hv:=h.ev x;simp only[jB]at hq
  generalize hX:σ.ev x=X at hq hv hz
  cases X with
  |agg l=>cases hq
  |MH l=>cases hq
  |c ad=>
   obtain⟨bb,oo,u,cell,hp,hc,h2,h3⟩:=tE hT hB st hz hv;refine⟨u,z,h2,e,fun w' rI=> ?_⟩;have hbb:w'.heap[bb]? =w.heap[bb]?:=by
    refine rI bb ?_
    have X5:VR E w σ.bx ad (a.eval x):=hv;cases ad with
    |IC b j=>
     simp only[gB,AVf]at hq;simp only[I2]at hc;split at hc
     ·rename_i cs hb
      refine .inr ⟨b,_,hq,hb,?_⟩;have:=X5.2;rw[hp]at this;simp only[Value.pointer.injEq,AMF,Addr.mk.injEq]at this;exact this.1
     simp_all
    |JQ b p i sz j=>
     simp only[gB,AVf]at hq;simp only[I2]at hc;split at hc
     ·rename_i d q rows hb
      refine .inr ⟨b,_,hq,hb,?_⟩;simp only[VR,hb]at X5;obtain⟨_,hpp,q1,ys,b2,o2,len,cap,g1,g2,g3,g4⟩:=X5;rw[hp]at g4;simp only[Value.pointer.injEq,AMF,Addr.mk.injEq]at g4;obtain⟨rfl,_⟩:=g4;obtain⟨F,⟨_,ho2⟩,_⟩:=hB.get hb;exact zt (Wo ho2) hpp g1 g3 g2
     simp_all
    |PE s r z j=>
     obtain⟨b2,o2,cs,g1,g2,_⟩:=X5;rw[hp]at g1;simp only[Value.pointer.injEq,AMF,Addr.mk.injEq]at g1;obtain⟨rfl,_⟩:=g1
     left
     grind
    |_=>cases hq
   grind[execOp,Sem.run_bind,Result.andThen_ok,Sem.run_pure]
 ·rename_i t xa xx ho;rw[ho]at hq;cases hq
 ·rename_i x ho
  have hx:=h.ev x;split at e
  ·rename_i b j hp
   rw[hp]at hx;have zo:b<σ.bx.length∧a.eval x= .pointer (some ⟨E.Hk b,j,none⟩):=hx;grind[execOp,Sem.run_pure]
  ·rename_i b p i sz j hp
   rw[hp]at hx;have hpt:cL (a.eval x)=true:=hx.1;grind[cL,execOp,Sem.run_pure]
  ·rename_i s r z j hp
   rw[hp]at hx;obtain⟨bb,oo,cs,hv,hrest⟩:=hx;exact⟨a.eval x,.c (.PE s r z j),⟨bb,oo,cs,hv,hrest⟩,e,fun w' _=>by grind[execOp,Sem.run_pure]⟩
  ·rename_i f J8 hp
   rw[hp]at hx;have zo:(∀b∈J8,b<σ.bx.length)∧a.eval x= .func (.func f) #[] (J8.map fun b=>Value.pointer (some ⟨E.Hk b,0,none⟩)).toArray:=hx;grind[execOp,Sem.run_pure]
  simp_all
 ·rename_i op t x z s ho
  rw[pP,AMQ]at e;obtain⟨r,e1,e⟩:=e;obtain⟨⟨t',x',rfl⟩,p1,p2⟩:=ARN e1;obtain⟨r0,val,h1,h2,h3⟩:=fj hT e1 (h.ev x) (h.ev z) x z;cases h1;refine⟨val,.c (.v t' x'),h3,e,fun w' _=> ?_⟩;obtain⟨r1,val',g1,g2,g3⟩:=fj hT e1 (MB (E':=E) (w':=w') (vw':=σ.bx) p1 (h.ev x)) (MB p2 (h.ev z)) x z;cases g1;have:=iT h3 g3;subst this;simp only[execOp,ho,Sem.run_bind];simp_all
 ·rename_i op t x ho
  rw[uY,AMQ]at e;obtain⟨r,e1,e⟩:=e;obtain⟨⟨t',x',rfl⟩,p1⟩:=AU_ e1;obtain⟨r0,val,h1,h2,h3⟩:=lT (P:=P) e1 (h.ev x);cases h1;refine⟨val,.c (.v t' x'),h3,e,fun w' _=> ?_⟩;obtain⟨r1,val',g1,g2,g3⟩:=lT (P:=P) e1 (MB (E':=E) (w':=w') (vw':=σ.bx) p1 (h.ev x));grind[iT,execOp,Sem.run_bind,Result.andThen_ok,Sem.run_pure]
 ·rename_i s d x ho;rw[ho]at hq;cases hq
 ·rename_i f first J8 ho;rw[ho]at hq;cases hq
 ·rename_i t l c ho;rw[ho]at hq;cases hq
 ·rename_i t x lo hi ho
  obtain⟨z,val,h1,h2,h3⟩:=jS hT hB st e (h.ev x) (AA5 h lo) (AA5 h hi);exact⟨val,z,h3,h1,fun w' _=>by simp only[execOp,ho,Option.map_none,Sem.run_bind,wf (WF.sliceAt _ _ _ _) h2 w',Result.andThen_ok,Sem.run_pure]⟩
 ·rename_i t x f ho
  split at e
  case h_2=>cases e
  rename_i z hz;obtain⟨u,h1,h2⟩:=i_ hT hz (h.ev x);refine⟨u,z,h2,e,fun w' _=> ?_⟩;have hw:(Instr.fieldAt t (a.eval x) f).run P w' = .ok u w':=by
   have hx:=h.ev x;unfold u_ at hz;split at hz
   case h_2=>cases hz
   rename_i s b fs _ Um;split at hz
   case h_2=>cases hz
   rename_i o' u' hf;have key:∀ad,a.eval x= .pointer (some ad)→(Instr.fieldAt t (a.eval x) f).run P w' = .ok u w':=by
    intro ad had;rw[had]at h1⊢;have r1:=Ua hT (w:=w) Um hf (a:=ad);grind[Ua]
   split at hz
   ·rename_i b' j hp
    rw[hp]at hx;exact key _ hx.2
   ·rename_i b' p i sz j hp
    rw[hp]at hx;have hpt:cL (a.eval x)=true:=hx.1;unfold cL at hpt;grind
   ·rename_i s r y' j hp
    rw[hp]at hx;obtain⟨bb,oo,cs,hv,_⟩:=hx;simp_all
   simp_all
  grind[execOp,Sem.run_bind,Result.andThen_ok,Sem.run_pure]
 ·rename_i t x f ho
  split at e
  case h_2=>cases e
  rename_i z hz;obtain⟨u,h1,h2⟩:=lh hT hz (h.ev x);exact⟨u,z,h2,e,fun w' _=>by simp only[execOp,ho,Sem.run_bind,wf (WF.field _ _ _) h1 w',Result.andThen_ok,Sem.run_pure]⟩
 ·rename_i t x i ho
  obtain⟨z,val,h1,h2,h3⟩:=iv hT hB st e (h.ev x) (h.ev i);exact⟨val,z,h3,h1,fun w' _=>by simp only[execOp,ho,Sem.run_bind,wf (WF.indexAt _ _ _) h2 w',Result.andThen_ok,Sem.run_pure]⟩
 ·rename_i t x i ho
  obtain⟨z,val,h1,h2,h3⟩:=cJ hT e (h.ev x) (h.ev i);exact⟨val,z,h3,h1,fun w' _=>by simp only[execOp,ho,Sem.run_bind,wf (WF.index _ _ _) h2 w',Result.andThen_ok,Sem.run_pure]⟩
 ·rename_i x i ho
  split at e
  case h_2=>cases e
  rename_i z hz;obtain⟨u,h1,h2⟩:=cm (P:=P) hz (h.ev x);exact⟨u,z,h2,e,fun w' _=>by simp only[execOp,ho,Sem.run_bind,wf (WF.extract _ _) h1 w',Result.andThen_ok,Sem.run_pure]⟩
 ·rename_i f args rU ho;rw[ho]at hq;cases hq
 ·rename_i args rU ho
  split at e
  ·rename_i s t H_ hts
   obtain⟨x,rfl,hx⟩:=XL H_;have hv:=h.ev x;rw[hx]at hv;have X5:=XW (E:=E) (w:=w) (vw:=σ.bx) hv;split at e
   case isFalse=>cases e
   rename_i hs;have hu:=XG hT hs;refine⟨.int .i64 (s.length:Int),.c (.v (.int .i64) (s.length:Int)),VR.int (E:=E) (vw:=σ.bx) _ _,e,fun w' _=> ?_⟩;have PC:(⟨s.toArray⟩:ByteArray).size=s.length:=by rfl
   simp[execOp,ho,resolve,invoke,builtin,Builtin.len_,hts,X5,BZ hu,goInt,PC]
  ·rename_i z t _ H_ hts
   obtain⟨x,rfl,hx⟩:=XL H_;have hv:=h.ev x;rw[hx]at hv;split at e
   case isFalse=>cases e
   rename_i hs;split at e
   case h_2=>cases e
   rename_i n hn;obtain⟨el,hu⟩:=lV hT hs;obtain⟨ad,cap,X5⟩:=l5 hB st hn hv;refine⟨.int .i64 (n:Int),.c (.v (.int .i64) (n:Int)),VR.int (E:=E) (vw:=σ.bx) _ _,e,fun w' _=> ?_⟩;simp[execOp,ho,resolve,invoke,builtin,Builtin.len_,hts,X5,BZ hu,goInt]
  simp_all
 ·rename_i args rU ho;rw[ho]at hq;cases hq
 ·rename_i args rU ho;rw[ho]at hq;cases hq
 ·rename_i args rU ho
  split at e
  case h_2=>cases e
  rename_i x1 x2 H_;obtain⟨o1,o2,rfl,hx1,hx2⟩:=XH H_;have bd:=h.ev o1;have Zv:=h.ev o2;rw[hx1]at bd;rw[hx2]at Zv;rw[aD,AMQ]at e;obtain⟨r,e1,e⟩:=e;obtain⟨⟨t',x',rfl⟩,p1,p2⟩:=AD5 e1;obtain⟨r0,val,h1,h2,h3⟩:=TF (P:=P) (big:=true) e1 bd Zv rU #[] o.type;cases h1;refine⟨val,.c (.v t' x'),h3,e,fun w' _=> ?_⟩;obtain⟨r1,val',g1,g2,g3⟩:=TF (P:=P) (big:=true) e1 (MB (E':=E) (w':=w') (vw':=σ.bx) p1 bd) (MB p2 Zv) rU #[] o.type;cases g1;have:=iT h3 g3;subst this;simp only[AS_]at g2;simp[execOp,ho,resolve,invoke,builtin,g2]
 ·rename_i args rU ho
  split at e
  case h_2=>cases e
  rename_i x1 x2 H_;obtain⟨o1,o2,rfl,hx1,hx2⟩:=XH H_;have bd:=h.ev o1;have Zv:=h.ev o2;rw[hx1]at bd;rw[hx2]at Zv;rw[aD,AMQ]at e;obtain⟨r,e1,e⟩:=e;obtain⟨⟨t',x',rfl⟩,p1,p2⟩:=AD5 e1;obtain⟨r0,val,h1,h2,h3⟩:=TF (P:=P) (big:=false) e1 bd Zv rU #[] o.type;cases h1;refine⟨val,.c (.v t' x'),h3,e,fun w' _=> ?_⟩;obtain⟨r1,val',g1,g2,g3⟩:=TF (P:=P) (big:=false) e1 (MB (E':=E) (w':=w') (vw':=σ.bx) p1 bd) (MB p2 Zv) rU #[] o.type;cases g1;have:=iT h3 g3;subst this;simp only[AMO,AOR]at g2;simp[execOp,ho,resolve,invoke,builtin,g2]
 simp_all
end
end Go.Fw
end
section
namespace Go.Fw
section
variable{P:Program} {md:Region.Mode} {ops:Array Oper} {Q:Exit→Act→World→Prop}
theorem pX.refl(K:Nat→Prop)(w:World):pX K w w:=fun _ _=>rfl
def xZ(P:Program)(md:Region.Mode)(ops:Array Oper)(Q:Exit→Act→World→Prop):Nat→Array Bool→(Nat→Prop)→Act→World→Prop
 |0,listed,_,a,w=>Region.ready md ops listed=[]∧Q .normal a w
 |fuel+1,listed,K,a,w=>(Region.ready md ops listed=[]→Q .normal a w)∧
  ∀i∈Region.ready md ops listed,wpOp P ops Q i (fun a' w' => ∃K':Nat→Prop,(∀c,K c→K' c)∧pX K w w'∧xZ P md ops Q fuel (listed.setIfInBounds i true) K' a' w') a w
theorem rz:∀(fuel:Nat) (listed:Array Bool) (K:Nat→Prop) (a:Act) (w:World),xZ P md ops Q fuel listed K a w→wpAny P md ops Q fuel listed a w
 |0,_,_,_,_,h=>h
 |fuel+1,_,_,_,_,h=>⟨h.1,fun i hi=>wpOp_mono (fun a' w' ⟨K',_,_,h'⟩=>rz fuel _ K' a' w' h') (h.2 i hi)⟩
theorem YieldsIf.mono{S S':World→Prop}{o:Oper}{v:Value}{a:Act}(h:YieldsIf P ops S o v a)(hs:∀w,S' w→S w):YieldsIf P ops S' o v a:=
 h.imp (fun⟨h1,h2⟩=>⟨h1,fun w hw=>h2 w (hs w hw)⟩) id
theorem mN{i:Nat}{oi:Oper}{v:Value}(hi:ops[i]? =some oi)(AFK:∀(j:Nat) (o:Oper) cs b,ops[j]? =some o→o.op≠ .select cs b)(hQ:∀c a w,¬Q (.panic c) a w):
  ∀(fuel:Nat) (listed:Array Bool) (K:Nat→Prop) (a:Act) (w:World),
   (∀j oj,ops[j]? =some oj→j≠i→listed.getD j true=false→(∀e∈oj.after,Region.binds md e=true→e.on≠i)→oi.apart ops oj=true)→
   i∈Region.ready md ops listed→YieldsIf P ops (pX K w) oi v a→xZ P md ops Q fuel (listed.setIfInBounds i true) K (a.put oi.dst v) w→xZ P md ops Q (fuel+1) listed K a w:=by
 intro fuel
 induction fuel with
 |zero=>
  intro listed K a w _ hr hy H;refine⟨fun h=>(by simp_all),fun j hj=> ?_⟩;by_cases hji:j=i
  ·subst hji;exact hy.wpOp hi (pX.refl K w) ⟨K,fun _ h=>h,pX.refl K w,H⟩
  ·have:=ready_mono hj hji
   rw[H.1]at this;cases this
 |succ fuel ih=>
  intro listed K a w bY hr hy H;refine⟨fun h=>(by simp_all),fun j hj=> ?_⟩;by_cases hji:j=i
  ·subst hji;exact hy.wpOp hi (pX.refl K w) ⟨K,fun _ h=>h,pX.refl K w,H⟩
  ·have h1:=H.2 j (ready_mono hj hji)
   obtain⟨hjun,oj,hoj,fl⟩:=mem_ready.1 hj;have AWq:∀e∈oj.after,Region.binds md e=true→e.on≠i:=fun e he hb heq=>by
    grind[mem_ready,Nat.lt_or_ge,Array.getElem?_eq_none]
   have h2:=wpOp_putIf hoj (bY j oj hoj hji hjun AWq) (fun cs b=>AFK i oi cs b hi) (fun cs b=>AFK j oj cs b hoj) (fun c a w h=>absurd h (hQ c _ w)) hy h1;have APO:∀k ok,ops[k]? =some ok→k≠i→(listed.setIfInBounds j true).getD k true=false→
     (∀e∈ok.after,Region.binds md e=true→e.on≠i)→oi.apart ops ok=true:=fun k ok hk hki hun hno=>by
    refine bY k ok hk hki ?_ hno
    by_cases hjk:j=k
    all_goals simp_all
   refine wpOp_mono (fun a' w' h3=> ?_) h2;obtain⟨xt,K',hK,hs,ht⟩:=h3;refine⟨K',hK,hs,ih (listed.setIfInBounds j true) K' a' w' APO (ready_mono hr (Ne.symm hji)) (YieldsIf.mono xt fun w'' AYp c hc=>(AYp c (hK c hc)).trans (hs c hc)) ?_⟩;grind[Array.setIfInBounds_comm]
end
theorem mF{Y:Type}{f:Nat→List Bool→Option Y}{y:Y}:∀{rs:AA4},(∀ω,vR f rs ω=some y)→ ∀i∈rs,∀ω,f i ω=some y
 |[i],h,j,hj,ω=>by
  simp at hj;subst hj;exact h ω
 |i::j::r,h,k,hk,ω=>by
  rcases ANv.1 hk with rfl|hk
  ·exact h (true::ω)
  ·exact mF (rs:=j::r) (fun ω=>h (false::ω)) k hk ω
theorem xn{σ:St}{t:Nat}{b:Bool}(e:σ.tm[t]? =some (.c (.v .bool b))):σ.put (some t) (.c (.v .bool b))=σ:=by
 simp only[St.put];obtain⟨tm,bx⟩:=σ;simp only[St.mk.injEq,ATG];obtain⟨Kg,he⟩:=AMK.1 e;apply AVx;grind
theorem sa{Y I:Type}[Nonempty I]{C:aN}{ops:Array Oper}{o:Oper}{kn:I→St→Option Y}{σ:St}{y:Y}{E:Env}{a:Act}{w:World}(h:Rel E σ a w)
  (e:∀ω,AAp C ops o (kn ω) σ=some y):
  (Region.wanted o (yielded ops a.tmps)=true∧ ∀ω,(WZ C.T C.Γ o σ fun x σ' =>kn ω (σ'.put o.dst x))=some y)∨
  (Region.wanted o (yielded ops a.tmps)=false∧ ∀ω,kn ω (σ.put o.dst (.MH []))=some y):=by
 unfold AAp at e;cases hg:o.guard with
 |none=>
  simp only[hg]at e;grind[Region.wanted]
 |some q=>
  obtain⟨j,want⟩:=q;simp only[hg]at e;cases ht:(ops[j]?).bind (·.dst)with
  |none=>
   simp_all
  |some t=>
   simp only[ht]at e;obtain⟨i0⟩:= ‹Nonempty I›;have e0:=e i0;split at e0
   ·rename_i b hb
    simp only[hb]at e;obtain⟨v,hv,hx⟩:=h.tmp hb;have hvb:=Rg (E:=E) (w:=w) (vw:=σ.bx) hx;subst hvb;have hy:yielded ops a.tmps j=some b:=by rw[aT ht hv];rfl
    have hk:=xn hb;cases b with
    |true=>
     simp only[AMp,tt,hk]at e;cases want with
     |true=>grind[Region.wanted]
     |false=>grind[Region.wanted]
    |false=>
     simp only[AMU,ff,hk]at e;cases want with
     |true=>grind[Region.wanted]
     |false=>grind[Region.wanted]
   ·rename_i hb
    simp only[hb]at e;obtain⟨v,hv,vs,rfl,hx⟩:=h.tmp hb;grind[yielded,aT,Region.wanted]
   simp_all
theorem ADO{ops:Array Oper}{o:Oper}{σ:St}{E:Env}{a:Act}{w:World}(h:Rel E σ a w)(e:idle ops σ o=true):Region.wanted o (yielded ops a.tmps)=false:=by
 unfold idle at e;cases hg:o.guard with
 |none=>simp_all
 |some q=>
  obtain⟨j,want⟩:=q;simp only[hg]at e;cases ht:(ops[j]?).bind (·.dst)with
  |none=>simp_all
  |some t=>
   simp only[ht]at e;split at e
   ·rename_i b hb
    obtain⟨v,hv,hx⟩:=h.tmp hb;have hvb:=Rg (E:=E) (w:=w) (vw:=σ.bx) hx;grind[yielded,aT,Region.wanted]
   ·rename_i hb
    obtain⟨v,hv,vs,rfl,hx⟩:=h.tmp hb;grind[yielded,aT,Region.wanted]
   simp_all
theorem sQ{Y I:Type}[Nonempty I]{C:aN}{ops:Array Oper}{i:Nat}{o:Oper}(ho:ops[i]? =some o){kn:I→St→Option Y}{σ:St}{y:Y}{E:Env}{a:Act}{w:World}(h:Rel E σ a w)
  (e:∀ω,z8 C ops i (kn ω) σ=some y):
  (Region.wanted o (yielded ops a.tmps)=true∧ ∀ω,(WZ C.T C.Γ o σ fun x σ' =>kn ω (σ'.put o.dst x))=some y)∨
  (Region.wanted o (yielded ops a.tmps)=false∧ ∀ω,kn ω (σ.put o.dst (.MH []))=some y):=
 sa h fun ω=>by
  grind[z8]
theorem AEP{hint t:AA4}{E E':Env}{bx QS:List Bx}{w w':World}(h:Q5 t E bx w E' QS w')(ht:∀b∈t,b∉hint)(ha:∀b∈hint,ko QS b=false):
  (∀c,Kof hint E w bx c→Kof hint E' w' QS c)∧pX (Kof hint E w bx) w w':=by
 have key:∀n B,n∈hint→bx[n]? =some B→ ∃B',QS[n]? =some B'∧Ux B B'∧ ∀c,xq E w n B c→w'.heap[c]? =w.heap[c]?:=by
  intro n B hn hB;have hd:=ha n hn;unfold ko at hd;split at hd
  ·cases hd
  ·rename_i B' cF TL
   obtain⟨h1,h2⟩:=h.frame n B B' (fun hm=>ht n hm hn) hB TL cF;simp_all
  simp_all
 refine⟨fun c hc=> ?_,fun c hc=> ?_⟩
 ·rcases hc with hc|⟨n,B,hn,hB,hc⟩
  ·exact .inl (h.base.T c hc)
  ·obtain⟨B',TL,hs,hh⟩:=key n B hn hB
   have hid:=h.ids n (AMK.1 hB).1;refine .inr ⟨n,B',hn,TL,?_⟩;cases B with
   |mem cs=>
    cases B' with
    |mem dM=>grind[xq]
    |sl _ _ _=>exact hs.elim
    |dead=>exact hs.elim
   |sl d r rows=>
    cases B' with
    |mem dM=>exact hs.elim
    |dead=>exact hs.elim
    |sl d' r' Cz=>
     simp only[Ux,AM9]at hs;obtain⟨rfl,hs⟩:=hs;obtain rfl:=ARx hs;grind[xq,nV]
   |dead=>exact hc.elim
 ·rcases hc with hc|⟨n,B,hn,hB,hc⟩
  ·exact h.base.heap c hc
  grind
theorem Yz{Y:Type}{C:aN}{hint:AA4}{ops:Array Oper}{kn:List Bool→St→Option Y}{fuel:Nat}{listed:Array Bool}{ω:List Bool}{σ:St}{y:Y}(e:To C hint ops kn fuel listed ω σ=some y):∀b∈hint,ko σ.bx b=false:=by
 grind[To,List.all_eq_true]
theorem um{Y:Type}{P:Program}{C:aN}(hT:Eo P C.T)(hΓ:fZ P C.Γ){E0:Env}{w0:World}{N nb:Nat}{hint:AA4}{ops:Array Oper}{kn:List Bool→St→Option Y}{y:Y}{Q:Exit→Act→World→Prop}
  (AFK:Region.noSelect ops=true) (hP:∀c a w,¬Q (.panic c) a w) (hk:∀E σ a w,Ok E0 w0 N nb E σ a w→(∀ω,kn ω σ=some y)→Q .normal a w):
  ∀(fuel:Nat) {listed:Array Bool} {E:Env} {σ:St} {a:Act} {w:World},Ok E0 w0 N nb E σ a w→(∀ω,To C hint ops kn fuel listed ω σ=some y)→xZ P .any ops Q fuel listed (Kof hint E w σ.bx) a w:=by
 intro fuel
 induction fuel with
 |zero=>
  intro listed E σ a w h e;have e1:=fun ω=>e ω
  unfold To at e1;have hal:=Yz (e []);have AQM:(hint.all fun b=> !ko σ.bx b)=true:=ATV.2 fun b hb=>by simp_all
  simp only[AQM,AS_]at e1;cases hr:Region.ready .any ops listed with
  |nil=>
   simp only[hr]at e1;exact⟨hr,hk E σ a w h e1⟩
  |cons i rs=>
   simp_all
 |succ fuel ih=>
  intro listed E σ a w h e;have e1:=fun ω=>e ω
  unfold To at e1;have hal:=Yz (e []);have AQM:(hint.all fun b=> !ko σ.bx b)=true:=ATV.2 fun b hb=>by simp_all
  simp only[AQM,AS_]at e1;cases hr:Region.ready .any ops listed with
  |nil=>
   simp only[hr]at e1;exact⟨fun _=>hk E σ a w h e1,by simp_all⟩
  |cons i0 rs=>
   simp only[hr]at e1;cases hf:(i0::rs).find? (oW hint ops listed σ)with
   |some i=>
    simp only[hf]at e1;have hi:=ATZ hf;have ht:=AXY hf;unfold oW at ht;cases ho:ops[i]? with
    |none=>simp_all
    |some o=>
     simp only[ho,AML]at ht;have bY:=Region.free_spec ho ht.2;rw[←hr]at hi;have hy:=sQ (I:=List Bool) (kn:=fun ω σ' =>To C hint ops kn fuel (listed.setIfInBounds i true) ω σ') ho h.rel e1;rcases hy with⟨hw,hx⟩|⟨hw,hx⟩
     ·have hq:jB hint σ o.op=true:=by
       rcases AS8 _ _▸ht.1 with hq|hi
       ·omega
       ·rw[ADO h.rel hi]at hw
        cases hw
      obtain⟨x,σ',hx0,hx1⟩:=kF hx;obtain⟨v,x',q1,q2,q3⟩:=yq hT h.rel hq hx0;simp only[k0,AMF,APv]at q2;obtain⟨rfl,rfl⟩:=q2;have iL:=ih (h.put o.dst q1) hx1;have vX:(σ.put o.dst x').bx=σ.bx:=by cases o.dst<;>rfl
      rw[vX]at iL;exact mN ho (Region.noSelect_spec AFK) hP fuel listed _ a w bY hi (.inl ⟨hw,q3⟩) iL
     ·have iL:=ih (h.put o.dst oC) hx
      have vX:(σ.put o.dst (.MH [])).bx=σ.bx:=by cases o.dst<;>rfl
      rw[vX]at iL;exact mN ho (Region.noSelect_spec AFK) hP fuel listed _ a w bY hi (.inr ⟨hw,rfl⟩) iL
   |none=>
    simp only[hf]at e1;have fl:=mF e1;refine⟨fun h0=>(by simp_all),fun i hi=> ?_⟩;rw[hr]at hi;have hx:=fl i hi;cases ho:ops[i]? with
    |none=>
     simp_all
    |some o=>
     simp only[ho]at hx;have htc:(KM C.Γ σ o.op).all (fun b=> !hint.contains b)=true:=by
      have:=hx [];simp_all
     simp only[htc,AS_]at hx;have htn:∀b∈KM C.Γ σ o.op,b∉hint:=fun b hb hh=>by
      simp_all
     unfold wpOp;simp only[ho];rcases sQ (I:=List Bool) (kn:=fun ω σ' =>To C hint ops kn fuel (listed.setIfInBounds i true) ω σ') ho h.rel hx with⟨hw,hx⟩|⟨hw,hx⟩
     ·rw[ALy hw]
      obtain⟨x,σ',hx0,hx1⟩:=kF hx;refine .inl (z6 hT hΓ h.rel hx0 fun v w' E' x' σ'' g1 g2 g3 g4 g5=> ?_);simp only[k0,AMF,APv]at g5;obtain⟨rfl,rfl⟩:=g5;have vX:(σ''.put o.dst x').bx=σ''.bx:=by cases o.dst<;>rfl
      have AVr:=Yz (hx1 []);rw[vX]at AVr;obtain⟨k1,k2⟩:=AEP g3 htn AVr;have iL:=ih ((h.next g1 g3 g4).put o.dst g2) hx1;grind
     ·rw[AMD (by simp[hw])]
      have iL:=ih (h.put o.dst oC) hx;have vX:(σ.put o.dst (.MH [])).bx=σ.bx:=by cases o.dst<;>rfl
      grind[pX.refl]
end Go.Fw
end
section
namespace Go.Fw
theorem Rel.heap{E:Env}{σ:St}{a:Act}{w w':World}(h:Rel E σ a w)(hw:w'.heap=w.heap):Rel E σ a w':=by
 have keep:SW E w σ.bx E w' σ.bx:=by
  refine⟨AQW _,fun _ _=>rfl,fun _ h=>h,fun _ h=>h,h.bx.st,fun _ _=>by rw[hw],fun b d r rows hb e=>⟨d,rows,e,fun p hp q ys hg=>⟨hp,⟨ys,hg,rfl⟩,fun hh he=> ?_⟩⟩⟩;obtain⟨Fs,⟨f1,f2⟩,_⟩:=h.bx;have hF:Fs[b]? =some (Fs[b]'(by omega)):=AL5 _;exact uE (f2 b _ _ e hF).2 (fun _ _=>by rw[hw]) (fun _ _=>by rw[hw]) hp hg he
 exact⟨h.NT,h.tm.imp fun _ _ hx=>Og keep hx,h.bx.turn (fun _ _ hv=>GH keep hv) (fun _ h=>h) (fun _ _=>rfl) (fun _ _=>rfl) (fun _ _ _=>by rw[hw]) fun F hF=>⟨hF.nodup,hF.free,fun c hc=>by rw[hw];exact hF.lt c hc,hF.st,fun c hc=>by rw[hw];exact hF.cS c hc⟩⟩
theorem Ok.drawn{E0 E:Env}{w0 w:World}{N nb:Nat}{σ:St}{a:Act}(h:Ok E0 w0 N nb E σ a w)(n:Nat):Ok E0 w0 N nb E σ a { w with drawn:=n }:=
 ⟨h.rel.heap rfl,⟨h.base.T,h.base.S,h.base.Tof,h.base.Sof,h.base.heap,h.base.os,h.base.tape,h.base.output,h.base.size⟩,h.tm,h.qp,h.ids⟩
theorem kM{Y I:Type}[Nonempty I]{P:Program}{C:aN}(hT:Eo P C.T)(hΓ:fZ P C.Γ){E0:Env}{w0:World}{N nb:Nat}{all:Array Oper}{kn:I→St→Option Y}{y:Y}{Q:Exit→Act→World→Prop}
  (hk:∀E σ a w,Ok E0 w0 N nb E σ a w→(∀ω,kn ω σ=some y)→Q .normal a w):∀{l:List Oper} {E:Env} {σ:St} {a:Act} {w:World},Ok E0 w0 N nb E σ a w→(∀ω,uQ C all l (kn ω) σ=some y)→wpList P all Q l a w
 |[],E,σ,a,w,h,e=>hk E σ a w h e
 |o::rest,E,σ,a,w,h,e=>by
  unfold wpList;rcases sa (kn:=fun ω σ=>uQ C all rest (kn ω) σ) h.rel e with⟨hw,hx⟩|⟨hw,hx⟩
  ·rw[ALy hw]
   obtain⟨x,σ',hx0,hx1⟩:=kF hx;refine .inl (z6 hT hΓ h.rel hx0 fun v w' E' x' σ'' g1 g2 g3 g4 g5=> ?_);simp only[k0,AMF,APv]at g5;obtain⟨rfl,rfl⟩:=g5;exact kM hT hΓ hk ((h.next g1 g3 g4).put o.dst g2) hx1
  ·rw[AMD (by simp[hw])]
   exact kM hT hΓ hk (h.put o.dst oC) hx
def Nn(P:Program)(body:Code)(Q:Exit→Act→World→Prop)(a:Act)(w:World):Prop:=
 ∀(b:Frame) (k:List Item) (cs:List Frame),∃e a' w',Q e a' w'∧Arrives P (lone (b.at a (.code body:: .inLoop body::k)) cs w) b k cs e a' w'
theorem Nn.wp{P:Program}{body:Code}{Q:Exit→Act→World→Prop}{a:Act}{w:World}(h:Nn P body Q a w):(Code.loop body).wp P Q a w:=fun b k cs=>by
 obtain⟨e,a',w',hq,cR⟩:=h b k cs;exact⟨e,a',w',hq,.of_steps (.one step_loop) cR⟩
theorem Nn.AJ7{P:Program}{body:Code}{Q:Exit→Act→World→Prop}{a:Act}{w:World}(h:body.wp P (Exit.then (Nn P body Q) Q) a w):Nn P body Q a w:=fun b k cs=>by
 obtain⟨e,a₁,w₁,hq,cR⟩:=h b (.inLoop body::k) cs;cases e with
 |normal=>
  obtain⟨e₂,a₂,w₂,hq₂,harr₂⟩:=hq b k cs;exact⟨e₂,a₂,w₂,hq₂,.of_steps (Steps.trans cR (.one step_inLoop)) harr₂⟩
 |exit id=>exact⟨_,a₁,w₁,hq,.pass (x:= .inLoop body) rfl (fun _ _=> .inl (by simp)) cR⟩
 |goto l=>exact⟨_,a₁,w₁,hq,.pass (x:= .inLoop body) rfl (fun _ _=> .inl (by simp)) cR⟩
 |ret=>exact⟨_,a₁,w₁,hq,.pass (x:= .inLoop body) rfl (fun _ _=> .inl (by simp)) cR⟩
 |panic ch=>exact⟨_,a₁,w₁,hq,.pass (x:= .inLoop body) rfl (fun _ _=> .inl (by simp)) cR⟩
 |outgrown=>exact⟨_,a₁,w₁,hq,.pass (x:= .inLoop body) rfl (fun _ _=> .inl (by simp)) cR⟩
abbrev lP:=Exit→Act→World→Prop
def At(P:Program):Code→lP→Nat→Code→lP→Prop
 | .seq a b,Q,ℓ,body,Q' =>At P a (Exit.then (b.wp P Q) Q) ℓ body Q'∨At P b Q ℓ body Q'
 | .cond _ a b,Q,ℓ,body,Q' =>At P a Q ℓ body Q'∨At P b Q ℓ body Q'
 | .block id c,Q,ℓ,body,Q' =>At P c (Exit.inBlock id Q) ℓ body Q'
 | .loop c,Q,ℓ,body,Q' =>(first c= ℓ ∧body=c∧Q' =Q)∨At P c (Exit.then (Nn P c Q) Q) ℓ body Q'
 |_,_,_,_,_=>False
def dL(Q:lP):Prop:= ∀c a w,¬Q (.panic c) a w
theorem dL.then{Q:lP}(h:dL Q)(n:Act→World→Prop):dL (Exit.then n Q):=fun c a w hq=>h c a w hq
theorem dL.inBlock{Q:lP}(h:dL Q)(id:Nat):dL (Exit.inBlock id Q):=fun c a w hq=>h c a w hq
section
variable{Y:Type} {P:Program} {C:aN} (hT:Eo P C.T) (hΓ:fZ P C.Γ) (hm:P.follows .mixedOrders=true) {E0:Env} {w0:World} {N nb:Nat} {y:Y} {J:Nat→St→Option Y}
structure Good (E0:Env) (w0:World) (N nb:Nat) (y:Y) (kn:KN Y) (kx:Nat→KN Y) (kr:KN Y) (Q:lP):Prop where
 n:∀E σ a w,Ok E0 w0 N nb E σ a w→(∀ω,kn ω σ=some y)→Q .normal a w
 x:∀id E σ a w,Ok E0 w0 N nb E σ a w→(∀ω,kx id ω σ=some y)→Q (.exit id) a w
 r:∀E σ a w,Ok E0 w0 N nb E σ a w→(∀ω,kr ω σ=some y)→Q .ret a w
def JOk(P:Program)(E0:Env)(w0:World)(N nb:Nat)(y:Y)(J:Nat→St→Option Y)(cd:Code)(Q:lP):Prop:=
 ∀ ℓ body Q',At P cd Q ℓ body Q'→ ∀E σ a w,Ok E0 w0 N nb E σ a w→J ℓ σ=some y→Nn P body Q' a w
include hT hΓ hm in
theorem yb:∀{cd:Code} {kn:KN Y} {kx:Nat→KN Y} {kr:KN Y} {Q:lP} {E:Env} {σ:St} {a:Act} {w:World},dL Q→Good E0 w0 N nb y kn kx kr Q→JOk P E0 w0 N nb y J cd Q→Ok E0 w0 N nb E σ a w→
  (∀ω,run C J cd kn kx kr ω σ=some y)→cd.wp P Q a w:=by
 intro cd
 induction cd with
 |skip=>intro kn kx kr Q E σ a w hp hg hj h e;exact wp_skip (hg.n E σ a w h e)
 |region id ops draw=>
  intro kn kx kr Q E σ a w hp hg hj h e;simp only[run]at e;cases draw with
  |false=>
   simp only[AMO,AOR]at e;exact wp_region_list (kM hT hΓ hg.n h e)
  |true=>
   simp only[AS_]at e;have hs:Region.noSelect ops=true:=by
    have:=e [];split at this
    ·rename_i hh;exact hh
    ·cases this
   simp only[hs,AS_]at e;exact wp_region_any hm (rz _ _ _ _ _ (um hT hΓ hs hp hg.n _ (h.drawn _) e))
 |seq x z ihx ihz=>
  intro kn kx kr Q E σ a w hp hg hj h e;simp only[run]at e;refine wp_seq (ihx (hp.then _) ⟨fun E σ a w h e=>ihz hp hg (fun ℓ body Q' OY=>hj ℓ body Q' (.inr OY)) h e,fun id E σ a w h e=>hg.x id E σ a w h e,hg.r⟩ (fun ℓ body Q' OY=>hj ℓ body Q' (.inl OY)) h e)
 |cond c x z ihx ihz=>
  intro kn kx kr Q E σ a w hp hg hj h e;cases c with
  |tmp t=>
   simp only[run]at e;have e0:=e [];split at e0
   ·rename_i b hb
    simp only[hb]at e;obtain⟨v,hv,hx⟩:=h.rel.tmp hb;have hvb:=Rg (E:=E) (w:=w) (vw:=σ.bx) hx;subst hvb;have hev:a.eval (.tmp t)= .bool b:=by simp[Act.eval,AXA,hv]
    have hk:=xn hb;cases b with
    |true=>
     simp only[AMp,tt,hk]at e;exact wp_cond_true hev (ihx hp hg (fun ℓ body Q' OY=>hj ℓ body Q' (.inl OY)) h e)
    |false=>
     simp only[AMU,ff,hk]at e;exact wp_cond_false hev (ihz hp hg (fun ℓ body Q' OY=>hj ℓ body Q' (.inr OY)) h e)
   ·cases e0
  |_=>cases e []
 |block id c ih=>
  intro kn kx kr Q E σ a w hp hg hj h e;simp only[run]at e;refine wp_block (ih (hp.inBlock id) ⟨hg.n,fun j E σ a w h e=> ?_,hg.r⟩ (fun ℓ body Q' OY=>hj ℓ body Q' OY) h e);simp only[Exit.inBlock];split
  ·rename_i hid
   simp only[hid,AS_]at e;exact hg.n E σ a w h e
  ·rename_i hid
   simp only[hid,AOR]at e;exact hg.x j E σ a w h e
 |loop body ih=>
  intro kn kx kr Q E σ a w hp hg hj h e;simp only[run]at e;exact Nn.wp (hj (first body) body Q (.inl ⟨rfl,rfl,rfl⟩) E σ a w h (e []))
 |exit id=>intro kn kx kr Q E σ a w hp hg hj h e;exact wp_exit (hg.x id E σ a w h e)
 |ret=>intro kn kx kr Q E σ a w hp hg hj h e;exact wp_ret (hg.r E σ a w h e)
 |_=>intro kn kx kr Q E σ a w hp hg hj h e;cases e []
end
end Go.Fw
end
section
namespace Go.Fw
def labels:Code→List Nat
 | .seq a b=>labels a++labels b
 | .cond _ a b=>labels a++labels b
 | .block _ c=>labels c
 | .loop c=>first c::labels c
 |_=>[]
theorem At.label{P:Program}:∀{cd:Code} {Q:lP} {ℓ :Nat} {body:Code} {Q':lP},At P cd Q ℓ body Q'→ ℓ ∈labels cd
 | .seq a b,Q,ℓ,body,Q',h=>by
  simp only[labels,AOs];exact h.imp At.label At.label
 | .cond _ a b,Q,ℓ,body,Q',h=>by
  simp only[labels,AOs];exact h.imp At.label At.label
 | .block _ c,Q,ℓ,body,Q',h=>At.label (cd:=c) h
 | .loop c,Q,ℓ,body,Q',h=>by
  simp only[labels,ANv];exact h.imp (fun h=>h.1.symm) At.label
section
variable{Y:Type} {P:Program} {C:aN} (hT:Eo P C.T) (hΓ:fZ P C.Γ) (hm:P.follows .mixedOrders=true) {E0:Env} {w0:World} {N nb:Nat} {y:Y} {J:Nat→St→Option Y}
theorem Qj{ℓ :Nat}:∀{cd:Code} {kn:KN Y} {kx:Nat→KN Y} {kr:KN Y},ℓ ∉labels cd→find C J ℓ cd kn kx kr=none
 | .seq a b,kn,kx,kr,h=>by
  simp only[labels,AOs,AXi]at h;simp only[find];rw[Qj h.1];exact Qj h.2
 | .cond _ a b,kn,kx,kr,h=>by
  simp only[labels,AOs,AXi]at h;simp only[find];rw[Qj h.1];exact Qj h.2
 | .block _ c,kn,kx,kr,h=>by simp only[find];exact Qj (cd:=c) h
 | .loop c,kn,kx,kr,h=>by
  simp only[labels,ANv,AXi]at h;simp only[find];rw[AMD (fun e=>h.1 e.symm)];exact Qj h.2
 | .skip,_,_,_,_=>rfl
 | .region _ _ _,_,_,_,_=>rfl
 | .rangeFunc _ _ _ _,_,_,_,_=>rfl
 | .exit _,_,_,_,_=>rfl
 | .scope _,_,_,_,_=>rfl
 | .label _,_,_,_,_=>rfl
 | .goto _,_,_,_,_=>rfl
 | .ret,_,_,_,_=>rfl
 | .refuse _,_,_,_,_=>rfl
include hT hΓ hm in
theorem AJ6{ℓ :Nat}:∀{cd:Code} {kn:KN Y} {kx:Nat→KN Y} {kr:KN Y} {Q:lP} {body:Code} {Q':lP},(labels cd).Nodup→dL Q→Good E0 w0 N nb y kn kx kr Q→JOk P E0 w0 N nb y J cd Q→At P cd Q ℓ body Q'→
  ∃kn' kx' kr',find C J ℓ cd kn kx kr=some (fun ω σ=>run C J body (fun _ σ=>J ℓ σ) kx' kr' ω σ)∧Good E0 w0 N nb y kn' kx' kr' Q'∧dL Q'∧JOk P E0 w0 N nb y J body (Exit.then (Nn P body Q') Q'):=by
 intro cd
 induction cd with
 |seq a b iha ihb=>
  intro kn kx kr Q body Q' hn hp hg hj OY;simp only[labels,ANN]at hn;obtain⟨n1,n2,n3⟩:=hn;have hja:JOk P E0 w0 N nb y J a (Exit.then (b.wp P Q) Q):=fun ℓ body Q' OY=>hj ℓ body Q' (.inl OY)
  have hjb:JOk P E0 w0 N nb y J b Q:=fun ℓ body Q' OY=>hj ℓ body Q' (.inr OY)
  simp only[find];rcases OY with OY|OY
  ·obtain⟨kn',kx',kr',h1,h2⟩:=iha n1 (hp.then _) (kn:=fun ω σ=>run C J b kn kx kr ω σ) (kx:=kx) (kr:=kr)
    ⟨fun E σ a w h e=>yb hT hΓ hm hp hg hjb h e,fun id E σ a w h e=>hg.x id E σ a w h e,hg.r⟩ hja OY
   exact⟨kn',kx',kr',by rw[h1],h2⟩
  ·have: ℓ ∉labels a:=fun h=>n3 ℓ h ℓ OY.label rfl
   rw[Qj this];exact ihb n2 hp hg hjb OY
 |cond c a b iha ihb=>
  intro kn kx kr Q body Q' hn hp hg hj OY;simp only[labels,ANN]at hn;obtain⟨n1,n2,n3⟩:=hn;simp only[find];rcases OY with OY|OY
  ·obtain⟨kn',kx',kr',h1,h2⟩:=iha n1 hp hg (fun ℓ body Q' OY=>hj ℓ body Q' (.inl OY)) OY
   exact⟨kn',kx',kr',by rw[h1],h2⟩
  ·have: ℓ ∉labels a:=fun h=>n3 ℓ h ℓ OY.label rfl
   rw[Qj this];exact ihb n2 hp hg (fun ℓ body Q' OY=>hj ℓ body Q' (.inr OY)) OY
 |block id c ih=>
  intro kn kx kr Q body Q' hn hp hg hj OY;simp only[find];refine ih hn (hp.inBlock id) ⟨hg.n,fun j E σ a w h e=> ?_,hg.r⟩ (fun ℓ body Q' OY=>hj ℓ body Q' OY) OY;simp only[Exit.inBlock];split
  ·rename_i hid
   simp only[hid,AS_]at e;exact hg.n E σ a w h e
  ·rename_i hid
   simp only[hid,AOR]at e;exact hg.x j E σ a w h e
 |loop c ih=>
  intro kn kx kr Q body Q' hn hp hg hj OY;simp only[labels,AW6]at hn;have hj':JOk P E0 w0 N nb y J c (Exit.then (Nn P c Q) Q):=fun ℓ body Q' OY=>hj ℓ body Q' (.inr OY)
  simp only[find];by_cases hl:first c= ℓ
  ·rw[ALy hl]
   rcases OY with⟨_,rfl,rfl⟩|OY
   ·exact⟨kn,kx,kr,rfl,hg,hp,hj'⟩
   ·exact absurd (hl▸OY.label) hn.1
  ·rw[AMD hl]
   rcases OY with⟨h,_⟩|OY
   ·exact absurd h hl
   ·exact ih hn.2 (hp.then _) ⟨fun E σ a w h e=>hj (first c) c Q (.inl ⟨rfl,rfl,rfl⟩) E σ a w h (e []),fun id E σ a w h e=>hg.x id E σ a w h e,hg.r⟩ hj' OY
 |_=>intro kn kx kr Q body Q' hn hp hg hj OY;exact OY.elim
end
theorem jH{E:Env}{w:World}{vw:List Bx}:∀{l:List (Nat×XP)} {x:Gt.V l} {vals:List Value} {tm:List XV},OW E w vw id l x vals→CT (XR E w vw) tm vals→CT (XR E w vw) (Gt.mk id l x tm) vals
 |[],_,_,_,_,h=>h
 |(i,p)::l,x,vals,tm,hs,h=>by
  obtain⟨⟨v,hv,hx⟩,hs⟩:=hs;simp only[Gt.mk];refine jH hs ?_
  have:=CT.set (i:=i) h hx;have e:vals.set i v=vals:=by
   apply AVx;grind
  simp_all
theorem CT.undef{E:Env}{w:World}{vw:List Bx}:∀{vals:List Value} {n:Nat},n=vals.length→CT (XR E w vw) (List.replicate n (.c .undef)) vals
 |[],n,h=>by subst h;trivial
 |v::vals,n,h=>by
  subst h;simp only[ANZ,List.replicate_succ];exact⟨trivial,CT.undef rfl⟩
theorem uX.shared{E E1:Env}{w:World}{bx:List Bx}{m:PK}{s:Ba}{x:s.V}{vals:List Value}(h:uX E w bx m s x vals E1)(hb:C9 E w bx bx []):
  ∃E2,E2.Hk=E1.Hk∧E2.Hl=E1.Hl∧ck E w E2 w∧C9 E2 w (Jb.mk id s.Gr x.2) (Jb.mk id s.Gr x.2) []∧OW E2 w (Jb.mk id s.Gr x.2) id s.Dy x.1 vals:=by
 obtain⟨Fk,k1,k2,k3,k4⟩:=h.rest
 let E2:Env:={ E1 with S:=fun c=>E1.S c∨c∈Fk.flatten }
 have st1:=h.boxes.st;have keep:SW E1 w (Jb.mk id s.Gr x.2) E2 w (Jb.mk id s.Gr x.2):=
  ⟨AQW _,fun _ _=>rfl,fun _ h=>h,fun _ h=> .inl h,st1,fun _ _=>rfl,fun b d r rows _ e=>⟨d,rows,e,fun p hp q ys hg=>⟨hp,⟨ys,hg,rfl⟩,fun _ h=>h⟩⟩⟩
 refine⟨E2,rfl,rfl,⟨h.T,fun c hc=> .inl (h.S c hc),fun c hc=> ?_,fun c hc=> ?_,fun _ _=>rfl,rfl,rfl,rfl,AQW _⟩,?_,?_⟩
 ·grind
 ·rcases hc with hc|hc
  ·exact h.Sof c hc
  grind
 ·refine h.boxes.turn (E':=E2) (w':=w) (fun _ _ hv=>GH keep hv) (fun _ h=> .inl h) (fun _ _=>rfl) (fun _ _=>rfl) (fun _ _ _=>rfl) fun F hF=>⟨hF.nodup,hF.free,hF.lt,fun c hc=>hc.elim (hF.st c) fun h=>(k3 c h).2.2.2,hF.cS⟩
 ·have:∀{l:List (Nat×XP)} {z:Gt.V l},OW E1 w (Jb.mk id s.Gr x.2) id l z vals→OW E2 w (Jb.mk id s.Gr x.2) id l z vals:=by
   intro l
   induction l with
   |nil=>intro z h;trivial
   |cons q l ih=>
    obtain⟨i,p⟩:=q;intro z h;obtain⟨⟨v,hv,hx⟩,hs⟩:=h;exact⟨⟨v,hv,Og keep hx⟩,ih hs⟩
  exact this h.Dy
theorem gR:∀{l:List BP} {i n:Nat},(TW i n l).length=l.length
 |[],_,_=>rfl
 |_::l,i,n=>by simp[TW,gR (l:=l)]
theorem gN:∀{l:List BP} {i n k b:Nat},(TW i n l)[k]? =some (some b)→b=i+k∧b<n∧l[k]?≠some .gone
 |[],i,n,k,b,h=>by simp[TW]at h
 |p::l,i,n,0,b,h=>by
  grind[TW,List.getElem?_cons_zero,Option.some.injEq]
 |p::l,i,n,k+1,b,h=>by
  simp only[TW,AWU]at h;obtain⟨h1,h2,h3⟩:=gN h;grind
theorem f_:∀{l:List BP} {i n k:Nat} {p:BP},l[k]? =some p→p≠ .gone→i+k<n→(TW i n l)[k]? =some (some (i+k))
 |q::l,i,n,0,p,h,hg,hn=>by
  simp at h;subst h;simp only[TW,List.getElem?_cons_zero,AMF];simp_all
 |q::l,i,n,k+1,p,h,hg,hn=>by
  simp only[TW,AWU];rw[f_ (l:=l) (i:=i+1) (k:=k) (by simp_all) hg (by omega)];grind
 |[],_,_,_,_,h,_,_=>by simp at h
theorem pn{l:List BP}{n:Nat}:qU (TW 0 n l):=fun i j b h k=>by
 have:=(gN h).1;have:=(gN k).1;omega
end Go.Fw
end
section
namespace Go.Fw
structure ATw (P:Program) (f:Nat) (fn:Func) (c:QU):Prop where
 at_:P.funcs[f]? =some fn
 call:∀args w,(callFunc f args).run P w= .ok (.enter f args) w
 con:c.ok=true
 tmps:c.ins.Dy.length≤fn.ntmps
 labels:∀code,fn.body=some code→(labels code).Nodup
section
variable{P:Program} {C:aN} (hT:Eo P C.T) {E:Env} {σ:St} {a:Act} {w:World}
include hT in
theorem AD9(h:Rel E σ a w):
  ∀{rs:List ResultVar} {xs:List XV},rs.mapM (AFc C.T σ)=some xs→ ∃vs,(∀f:ResultVar→Sem Value,(∀u,f (.tmp u)=pure (a.tmps.getD u undef))→(∀b t,f (.cell b t)=(do loadVar t (←asAddr (a.tmps.getD b undef))))→
   (rs.mapM f).run P w= .ok vs w)∧CT (XR E w σ.bx) xs vs:=by
 intro rs
 induction rs with
 |nil=>
  intro xs e;have hx:xs=[]:=by simpa using e.symm
  subst hx;exact⟨[],fun f _ _=>by simp,trivial⟩
 |cons r rs ih=>
  intro xs e;rw[AXf]at e;simp only[Option.bind_eq_bind,AMQ,Option.pure_def,AMF]at e;obtain⟨x,e1,ys,e2,rfl⟩:=e;obtain⟨vs,h1,h2⟩:=ih e2;have one:∃v,(∀f:ResultVar→Sem Value,(∀u,f (.tmp u)=pure (a.tmps.getD u undef))→(∀b t,f (.cell b t)=(do loadVar t (←asAddr (a.tmps.getD b undef))))→(f r).run P w= .ok v w)∧XR E w σ.bx x v:=by
   cases r with
   |tmp t=>
    simp only[AFc]at e1;obtain⟨v,hv,hx⟩:=h.tmp e1;refine⟨v,fun f hf hc=> ?_,hx⟩;rw[hf];simp[AXA,hv]
   |cell b t=>
    simp only[AFc]at e1;split at e1
    case h_2=>cases e1
    rename_i z hz;obtain⟨v,hv,hx⟩:=h.tmp hz;obtain⟨Fs,hB,hS⟩:=h.bx;cases z with
    |agg l=>simp[mB]at e1
    |MH l=>simp[mB]at e1
    |c ad=>
     obtain⟨bb,oo,u,cell,hp,_,q2,q3⟩:=tE hT hB hS.st e1 hx;refine⟨u,fun f hf hc=> ?_,q2⟩;have hgd:a.tmps.getD b undef=v:=by simp[AXA,hv]
     have:=q3 w rfl;rw[hc,hgd,hp];rw[hp]at this;simpa[Instr.loadAt,Instr.sureAddr,asAddr]using this
  obtain⟨v,g1,g2⟩:=one;refine⟨v::vs,fun f hf hc=> ?_,g2,h2⟩;rw[AXf];simp[g1 f hf hc,h1 f hf hc]
theorem gn{vw:List Bx}:∀{l:List XV} {q:List (AV ⊕ List AV)} {vs:List Value},wH l=some q→CT (XR E w vw) l vs→CT (TR E w vw) q vs
 |[],q,[],e,_=>by
  simp only[wH,AMF]at e;subst e;trivial
 |[],_,_::_,_,h=>h.elim
 | .c x::l,q,v::vs,e,h=>by
  simp only[wH,AMI]at e;obtain⟨r,e1,rfl⟩:=e;exact⟨h.1,gn e1 h.2⟩
 | .agg x::l,q,v::vs,e,h=>by
  simp only[wH,AMI]at e;obtain⟨r,e1,rfl⟩:=e;exact⟨h.1,gn e1 h.2⟩
 | .MH _::_,_,_,e,_=>by simp[wH]at e
 | .c _::_,_,[],_,h=>h.elim
 | .agg _::_,_,[],_,h=>h.elim
include hT in
theorem rj(h:Rel E σ a w){fn:Func}{x:XV}(e:jb C.T σ fn.results.toList=some x):∃v,(results fn a.tmps).run P w= .ok v w∧XR E w σ.bx x v:=by
 unfold jb at e;have key:∀xs,fn.results.toList.mapM (AFc C.T σ)=some xs→ ∃vs:List Value,(results fn a.tmps).run P w= .ok (if h:vs.toArray.size=1 then vs.toArray[0]else .tuple vs.toArray) w∧CT (XR E w σ.bx) xs vs:=by
  intro xs hx;obtain⟨vs,h1,h2⟩:=AD9 (P:=P) hT h hx;refine⟨vs,?_,h2⟩;unfold results;rw[Array.mapM_eq_mapM_toList];simp only[Sem.run_bind,Sem.run_map];rw[h1 _ (fun _=>rfl) (fun _ _=>rfl)];simp only[Result.andThen_ok,Sem.run_pure]
 split at e
 ·rename_i z hz
  cases e;obtain⟨vs,h1,h2⟩:=key _ hz
  match vs,h2 with
  |[v],h2=>exact⟨v,by simpa using h1,h2.1⟩
  |v::_::_,h2=>exact h2.2.elim
  |[],h2=>exact h2.elim
 ·rename_i l hl hz
  simp only[AMI]at e;obtain⟨q,e1,rfl⟩:=e;obtain⟨vs,h1,h2⟩:=key _ hz;have cF: ¬vs.toArray.size=1:=fun hs=>by
   have:=CT.len h2
   match l,this with
   |[z],_=>exact hl z rfl
   |[],t=>simp at t hs;omega
   |_::_::_,t=>simp at t hs;omega
  rw[dif_neg cF]at h1;exact⟨_,h1,vs.toArray,rfl,by simpa using gn e1 h2⟩
 ·cases e
end
theorem fB{E:Env}{w:World}{vw:List Bx}{more:List Value}:∀{l:List (Nat×XP)} {x:Gt.V l} {vals:List Value},OW E w vw id l x vals→OW E w vw id l x (vals++more)
 |[],_,_,_=>trivial
 |(i,p)::l,x,vals,h=>by
  obtain⟨⟨v,hv,hx⟩,hs⟩:=h;exact⟨⟨v,by grind,hx⟩,fB hs⟩
def AAK(C:aN)(c:QU)(fn:Func)(code:Code)(J:Nat→Nat→St→Option c.outs.V):Prop:=
 ∀ ℓ,ℓ ∈labels code→ ∃(s:Ba) (F:Nat→s.V→Option c.outs.V),(∀n,J n ℓ =jump c.ins.Gr.length s (F n))∧(∀v,F 0 v=none)∧
  ∀n v y,F (n+1) v=some y→ ∀ω,JR C c fn (J n) ℓ ω (s.st fn.ntmps v)=some y
section
variable{P:Program} {C:aN} (hT:Eo P C.T) (hΓ:fZ P C.Γ) (hm:P.follows .mixedOrders=true) {fn:Func} {c:QU}
def AP1(c:QU)(E0:Env)(w0:World)(u:c.outs.V)(e:Ending)(w':World):Prop:=
 ∃x E',e= .returned x∧ck E0 w0 E' w'∧C9 E' w' (Jb.mk id c.outs.Gr u.2) (Jb.mk id c.outs.Gr u.2) []∧
  OW E' w' (Jb.mk id c.outs.Gr u.2) id c.outs.Dy u.1 [x]∧ ∀i,i<c.ins.Gr.length→alive c.outs.Gr i=true→E'.Hk i=E0.Hk i∧E'.Hl i=E0.Hl i
theorem Ok.opens{E0 E:Env}{w0 w:World}{N nb:Nat}{σ:St}{a:Act}(h:Ok E0 w0 N nb E σ a w)(s:Ba):∃E',Ok E0 w0 N nb E' { σ with bx:=s.opens σ.bx } a w∧
  (∀(i:Nat) d r,s.Gr[i]? =some (.sl d r)→E'.Hl (σ.bx.length+i)= .slice none 0 0)∧(∀x v,XR E w σ.bx x v→XR E' w (s.opens σ.bx) x v):=by
 obtain⟨E',h1,h2,h3,h4⟩:=tD h.rel s;exact⟨E',h.next h1 h2 rfl,h3,h4⟩
theorem AEp{E E':Env}{w:World}{vw:List Bx}{b:Nat}(h:Le E E')(st:∀c,E.S c→E.T c):SW E w vw E' w (vw.set b .dead):=by
 refine⟨by simp,fun b _=>by rw[h.Hk],h.T,h.S,st,fun _ _=>rfl,fun c d r rows _ e=> ?_⟩;by_cases hc:c=b
 ·simp_all
 ·rw[AS4 (fun e=>hc e.symm)]at e
  exact⟨d,rows,e,fun p hp q ys hg=>⟨hp,⟨ys,hg,rfl⟩,fun h' hh=>by rw[h.Hl];omega⟩⟩
theorem AJJ{E:Env}{σ:St}{a:Act}{w:World}(h:Rel E σ a w)(b:Nat):∃E',Rel E' (σ.pY b) a w∧Le E E':=by
 unfold St.pY;split
 case h_2=>grind[Le.refl]
 rename_i d r rows hb;obtain⟨F,hF,hB⟩:=h.bx.take hb;have Xg:C9 E w σ.bx (σ.bx.set b .dead) ([]++F++[]):=by simp_all
 obtain⟨hle,hB3⟩:=Xg.share;have hk:=AEp (vw:=σ.bx) (b:=b) (w:=w) hle h.bx.st;have hk2:SW E w σ.bx { E with S:=fun c=>E.S c∨c∈F,T:=fun c=>E.T c∨c∈F } w ((σ.bx.set b .dead).map (Bx.pY b r rows)):=by
  refine⟨by simp,hk.Hk,hk.T,hk.S,hk.st,hk.heap,fun c d' r' Cz hc e=> ?_⟩;rw[ASJ,AMI]at e;obtain⟨B,e,eB⟩:=e;cases B with
  |mem cs=>cases eB
  |dead=>cases eB
  |sl d0 r0 Rz=>
   cases eB;grind
 have hv:∀x v,VR E w σ.bx x v→VR { E with S:=fun c=>E.S c∨c∈F,T:=fun c=>E.T c∨c∈F } w ((σ.bx.set b .dead).map (Bx.pY b r rows)) (x.pY b r rows) v:=fun x v hx=>by
  unfold AV.pY;split
  ·rename_i c
   split
   ·rename_i hc
    subst hc;obtain⟨h1,h2⟩:=hx;rw[hb]at h2;have hv:=h2.2.2;rw[C8]at hv;simp only[AMF]at hv;have:=Wo hF.2;rw[hv]at this;exact Fj (fun c hc=>hc) (fun _ _=>rfl) this
   grind[GH]
  grind[GH]
 refine⟨_,⟨h.NT,?_,?_⟩,hle⟩
 ·refine CT.K8 _ (fun x v hx=> ?_) h.tm
  unfold XV.pY;split
  ·exact hv _ _ hx
  grind[Og]
 ·obtain⟨Fs,⟨hl,h1⟩,h2⟩:=hB
  have h2':Sep E w (F++Fs.flatten):=h2.perm (by grind);refine⟨Fs,⟨by simp_all,fun k B G TL hG=> ?_⟩,?_⟩
  ·rw[ASJ,AMI]at TL
   obtain⟨B0,e,rfl⟩:=TL;have h3:=h1 k B0 G e hG;cases B0 with
   |mem cs=>
    obtain⟨rfl,arr,ty,fr,a1,a2,a3⟩:=h3;exact⟨rfl,arr,ty,fr,a1,a2,CT.K8 _ (fun x v hx=>hv x v hx) a3⟩
   |sl d0 r0 Rz=>exact⟨h3.1,EX hle.S (fun _ _=>rfl) (fun _ _=>rfl) h3.2⟩
   |dead=>exact h3
  ·rw[AM5]
   have st:=h.bx.st;refine⟨(ANN.1 h2'.nodup).2.1,fun c hc ht=> ?_,fun c hc=>h2'.lt c (by simp_all),fun c hc=>hc.imp (st c) id,fun c hc=>hc.elim (h2'.cS c) fun h' =>h2'.lt c (by simp[h'])⟩;rcases ht with ht|ht
   ·exact h2'.free c (AOs.2 (.inr hc)) ht
   ·exact(ANN.1 h2'.nodup).2.2 c ht c hc rfl
theorem ADY{σ:St}{b i:Nat}(h:σ.bx[i]? =some .dead):(σ.pY b).bx[i]? =some .dead:=by
 unfold St.pY;split
 ·simp only[ASJ,List.getElem?_set]
  split
  ·simp_all
  ·rw[h];rfl
 omega
theorem AAe{σ:St}{b:Nat}:(σ.pY b).bx.length=σ.bx.length∧(σ.pY b).tm.length=σ.tm.length:=by
 grind[St.pY]
theorem Ok.pY{E0 E:Env}{w0 w:World}{N nb:Nat}{σ:St}{a:Act}(h:Ok E0 w0 N nb E σ a w)(b:Nat):∃E',Ok E0 w0 N nb E' (σ.pY b) a w:=by
 obtain⟨E',h1,h2⟩:=AJJ h.rel b;refine⟨E',⟨h1,h.base.trans (h2.base w),by rw[AAe.2];exact h.tm,by rw[AAe.1];exact h.qp,fun i hi hd=> ?_⟩⟩;rw[h2.Hk,h2.Hl];exact h.ids i hi fun e=>hd (ADY e)
theorem Ok.G1{E0:Env}{w0 w:World}{N nb:Nat}{a:Act}:∀(l:List AP) (xs:List AV) {E:Env} {σ:St},Ok E0 w0 N nb E σ a w→ ∃E',Ok E0 w0 N nb E' (G1 l xs σ) a w:=by
 intro l xs E σ h
 induction l generalizing xs E σ with
 |nil=>grind[Fw.G1]
 |cons p l ih=>
  unfold Fw.G1;split
  ·rename_i heq
   cases heq;obtain⟨E',h'⟩:=h.pY _;exact ih _ h'
  ·rename_i heq
   cases heq;exact ih _ h
  grind
theorem Ok.AZj{E0:Env}{w0 w:World}{N nb:Nat}{a:Act}{bs:List BP}:∀(l:List (Nat×XP)) {E:Env} {σ:St},Ok E0 w0 N nb E σ a w→ ∃E',Ok E0 w0 N nb E' (PT bs l σ) a w:=by
 intro l
 induction l with
 |nil=>intro E σ h;exact⟨E,h⟩
 |cons q l ih=>
  intro E σ h;unfold PT;split
  ·simp_all
  ·rename_i e
   cases e;split
   ·obtain⟨E',h'⟩:=h.G1 [_] [_]
    exact ih h'
   grind
  ·rename_i e
   cases e;split
   ·split
    ·obtain⟨E',h'⟩:=h.G1 _ _
     exact ih h'
    grind
   grind
  grind
theorem uI{E:Env}{w:World}{vw:List Bx}{x:AV}{v:Value}(h:VR E w vw x v)(hx:x.su=true):isSlice v=true:=by
 cases x with
 |ref b p=>exact h.1
 |win b p o n=>exact h.1
 |sl s r y=>
  simp only[VR,Rd]at h;obtain⟨a,cap,h,_⟩:=h;simp only[AQj,ATG]at h;rw[h];rfl
 |nil=>cases h;rfl
 |_=>cases hx
theorem yT{E:Env}{σ:St}{a:Act}{w:World}(h:Rel E σ a w)(b j:Nat):Rel E (σ.forget b j) a w∧σ.bx.length≤(σ.forget b j).bx.length∧(∀i:Nat,σ.bx[i]? =some Bx.dead→(σ.forget b j).bx[i]? =some Bx.dead)∧(σ.forget b j).tm=σ.tm:=by
 unfold St.forget;split
 case h_2=>simp_all
 rename_i cs hb;split
 case h_2=>simp_all
 rename_i x hx;split
 case isFalse=>simp_all
 rename_i hs;have hbl:=(AMK.1 hb).1;have hk:SW E w σ.bx E w (σ.bx.set b (.mem (cs.set j (.ref σ.bx.length [])))++[.dead]):=by
  refine⟨by simp,fun _ _=>rfl,fun _ h=>h,fun _ h=>h,h.bx.st,fun _ _=>rfl,fun c d r rows hc e=> ?_⟩;grind
 refine⟨⟨h.NT,h.tm.imp fun _ _ hx=>Og hk hx,?_⟩,by simp,fun i hi=> ?_,rfl⟩
 ·obtain⟨Fs,⟨hl,h1⟩,h2⟩:=h.bx
  refine⟨Fs++[[]],⟨by simp[hl],fun k B G hB hG=> ?_⟩,by simp_all⟩;by_cases hk2:k<σ.bx.length
  ·rw[ANd (by simp_all)]at hB
   rw[ANd (by omega)]at hG;by_cases hkb:b=k
   ·subst hkb
    rw[ATT hk2]at hB;cases hB;obtain⟨rfl,arr,ty,fr,a1,a2,a3⟩:=h1 b _ G hb hG;refine⟨rfl,arr,ty,fr,a1,a2,?_⟩;have a4:iz E w (σ.bx.set b (.mem (cs.set j (.ref σ.bx.length [])))++[.dead]) cs arr.toList:=a3.imp fun _ _ hv=>GH hk hv
    obtain⟨v,hv,hvr⟩:=a3.get hx;have WT:arr.toList.set j v=arr.toList:=by
     apply AVx;grind
    rw[←WT];refine CT.set a4 ⟨uI hvr hs,?_⟩;simp_all
   ·rw[AS4 hkb]at hB
    have h3:=h1 k B G hB hG;cases B with
    |mem dM=>
     obtain⟨rfl,arr,ty,fr,a1,a2,a3⟩:=h3;exact⟨rfl,arr,ty,fr,a1,a2,a3.imp fun _ _ hv=>GH hk hv⟩
    |sl d0 r0 Rz=>exact h3
    |dead=>exact h3
  ·have hlen:=(AMK.1 hB).1
   simp only[APB,AUg,ANZ,AQZ]at hlen;have hkk:k=σ.bx.length:=by omega
   subst hkk;rw[ANr (by simp)]at hB;rw[ANr (by omega)]at hG;simp[hl]at hB hG;subst hB hG;rfl
 grind
theorem Ok.forget{E0 E:Env}{w0 w:World}{N nb:Nat}{σ:St}{a:Act}(h:Ok E0 w0 N nb E σ a w)(b j:Nat):Ok E0 w0 N nb E (σ.forget b j) a w:=by
 obtain⟨h1,h2,h3,h4⟩:=yT h.rel b j;exact⟨h1,h.base,by rw[h4];exact h.tm,ASs h.qp h2,fun i hi hd=>h.ids i hi fun e=>hd (h3 i e)⟩
theorem Ok.Wy{E0 E:Env}{w0 w:World}{N nb:Nat}{a:Act}{bs:List BP}{b:Nat}:∀(l:List AP) (j:Nat) {σ:St},Ok E0 w0 N nb E σ a w→Ok E0 w0 N nb E (Wy bs b j l σ) a w
 |[],_,_,h=>h
 |p::l,j,σ,h=>by
  simp only[Fw.Wy];refine Ok.Wy l (j+1) ?_
  split
  ·split
   ·exact h.forget _ _
   omega
  omega
theorem Ok.AWS{E0 E:Env}{w0 w:World}{N nb:Nat}{a:Act}{bs:List BP}:∀(l:List (Nat×XP)) {σ:St},Ok E0 w0 N nb E σ a w→Ok E0 w0 N nb E (dA bs l σ) a w
 |[],_,h=>h
 |(i,p)::l,σ,h=>by
  simp only[dA];refine Ok.AWS l ?_
  split
  ·split
   ·exact h.Wy _ _
   omega
  omega
theorem Ok.aq{E0:Env}{w0 w:World}{N nb:Nat}{a:Act}:∀(l:List (AP ⊕ List AP)) (xs:List (AV ⊕ List AV)) {E:Env} {σ:St},Ok E0 w0 N nb E σ a w→ ∃E',Ok E0 w0 N nb E' (aq l xs σ) a w:=by
 intro l xs E σ h
 induction l generalizing xs E σ with
 |nil=>unfold Fw.aq;exact⟨E,h⟩
 |cons p l ih=>
  unfold Fw.aq;split
  ·rename_i heq
   cases heq;obtain⟨E',h'⟩:=h.G1 _ _;exact ih _ h'
  ·rename_i heq
   cases heq;obtain⟨E',h'⟩:=h.G1 _ _;exact ih _ h'
  ·rename_i heq
   cases heq;exact ih _ h
  ·exact⟨E,h⟩
theorem Ok.kq{E0 E:Env}{w0 w:World}{N nb:Nat}{σ:St}{a:Act}(h:Ok E0 w0 N nb E σ a w)(l:List (Nat×XP))(x:XV):∃E',Ok E0 w0 N nb E' (kq l x σ) a w:=by
 unfold Fw.kq;split
 ·unfold AVc
  split
  ·exact h.G1 _ _
  ·exact h.G1 _ _
  ·exact h.aq _ _
  ·exact⟨E,h⟩
 ·exact⟨E,h⟩
include hT in
theorem sq{E0 E:Env}{w0 w:World}{N:Nat}{σ:St}{a:Act}{u:c.outs.V}(h:Ok E0 w0 N c.ins.Gr.length E σ a w)(e:q9 C.T c fn.results.toList σ=some u):
  a.defers=[]∧ ∃v,(results fn a.tmps).run P w= .ok v w∧AP1 c E0 w0 u (.returned v) w:=by
 unfold q9 at e;simp only[AMQ,AMI]at e;obtain⟨x0,_,x,e1,⟨u',m⟩,e2,rfl⟩:=e;obtain⟨E,h⟩:=h.kq c.outs.Dy x0;revert h e1 e2
 generalize Fw.kq c.outs.Dy x0 σ=σ
 intro e1 e2 h;obtain⟨v,h1,h2⟩:=rj hT h.rel e1;obtain⟨E,h,uP,h4⟩:=h.opens c.outs
 replace h2:=h4 _ _ h2
 obtain⟨hext,E1,hf⟩:=kH (tm:=[x]) (vals:=[v]) h.rel.bx ⟨h2,trivial⟩ uP gR pn e2;obtain⟨E2,q1,q2,q3,q4,q5⟩:=hf.shared h.rel.bx;refine⟨h.rel.NT,v,h1,v,E2,rfl,h.base.trans q3,q4,q5,fun i hi hal=> ?_⟩;obtain⟨p,hp,hg⟩:∃p,c.outs.Gr[i]? =some p∧p≠ .gone:=by
  unfold alive at hal;cases hh:c.outs.Gr[i]? with
  |none=>rw[hh]at hal;cases hal
  |some p=>
   refine⟨p,rfl,fun hp=> ?_⟩;rw[hh,hp]at hal;cases hal
 have hm1:=hext.2 i i (by have:=f_ (i:=0) (n:=c.ins.Gr.length) hp hg (by omega);simpa using this);obtain⟨b,B,g1,g2,g3,_⟩:=uU e2 i p hp hg;rw[hm1]at g1;cases g1;have hid:=hf.ids i i hm1;have ADN:=h.ids i hi (fun hd=>by rw[g2]at hd;cases hd;exact g3 rfl);rw[q1,q2];exact⟨hid.1.trans ADN.1,hid.2.trans ADN.2⟩
include hT hΓ hm in
theorem ADi{code:Code}(hb:fn.body=some code)(hl:(labels code).Nodup){J:Nat→Nat→St→Option c.outs.V}(hJ:AAK C c fn code J)
  {E0:Env} {w0:World} {u:c.outs.V} {Q:lP} (hp:dL Q)
  (hg:Good E0 w0 fn.ntmps c.ins.Gr.length u (fun _=>q9 C.T c fn.results.toList) (fun _ _ _=>none) (fun _=>q9 C.T c fn.results.toList) Q):
  ∀n,JOk P E0 w0 fn.ntmps c.ins.Gr.length u (J n) code Q:=by
 intro n
 induction n with
 |zero=>
  intro ℓ body Q' OY E σ a w h e;obtain⟨s,F,j1,j2,j3⟩:=hJ ℓ OY.label;rw[j1]at e;simp only[jump]at e;split at e
  ·rw[AMQ]at e
   obtain⟨q,_,e⟩:=e;rw[j2]at e;cases e
  ·cases e
 |succ n ih=>
  intro ℓ body Q' OY E σ a w h e;obtain⟨s,F,j1,j2,j3⟩:=hJ ℓ OY.label;rw[j1]at e;simp only[jump]at e;split at e
  case isFalse=>cases e
  rename_i qp;rw[AMQ]at e;obtain⟨⟨v,m⟩,e1,e2⟩:=e;dsimp only at e2;obtain⟨E,h⟩:=h.AZj (bs:=s.Gr) s.Dy
  replace h:=h.AWS (bs:=s.Gr) s.Dy
  revert h e1
  generalize dA s.Gr s.Dy (PT s.Gr s.Dy σ)=σ
  intro e1 h;obtain⟨E,h,uP,h4⟩:=h.opens s;obtain⟨hext,E1,hf⟩:=kH h.rel.bx h.rel.tm uP gR pn e1;obtain⟨E2,q1,q2,q3,q4,q5⟩:=hf.shared h.rel.bx;have PC:fn.ntmps=a.tmps.toList.length:=by rw[←CT.len h.rel.tm,h.tm]
  have Br:Ok E0 w0 fn.ntmps c.ins.Gr.length E2 (s.st fn.ntmps v) a w:=by
   refine⟨⟨h.rel.NT,jH q5 (CT.undef PC),q4⟩,h.base.trans q3,?_,?_,fun i hi hd=> ?_⟩
   ·have:=CT.len (jH q5 (CT.undef PC))
    simp only[Ba.st];rw[this,←PC]
   ·simp only[Ba.st]
    rw[TG];exact qp
   ·simp only[Ba.st]at hd
    have hp':s.Gr[i]? =some (s.Gr[i]'(by omega)):=AL5 _;have hng:s.Gr[i]'(by omega)≠ .gone:=fun xj=>by
     obtain⟨z,z1,_⟩:=au id (u:=v.2) hp';apply hd;rw[z1]
     generalize s.Gr[i]'(by omega)=pp at z xj
     subst xj;rfl
    have hm1:=hext.2 i i (by have:=f_ (i:=0) (n:=c.ins.Gr.length) hp' hng (by omega);simpa using this);obtain⟨b,B,g1,g2,g3,_⟩:=uU e1 i _ hp' hng;rw[hm1]at g1;cases g1;have hid:=hf.ids i i hm1;have ADN:=h.ids i hi (fun hd=>by rw[g2]at hd;cases hd;exact g3 rfl);rw[q1,q2];exact⟨hid.1.trans ADN.1,hid.2.trans ADN.2⟩
  have AD4:=j3 n v u e2;obtain⟨kn',kx',kr',z7,mA,hnp,hj⟩:=AJ6 hT hΓ hm hl hp hg ih OY;simp only[JR,hb,z7]at AD4;refine Nn.AJ7 (yb hT hΓ hm (hnp.then _) (kn:=fun _ σ=>J n ℓ σ) ⟨fun E σ a w h e=> ?_,fun id E σ a w h e=>mA.x id E σ a w h e,mA.r⟩ hj Br AD4);exact ih ℓ body Q' OY E σ a w h (e [])
include hT hΓ hm in
theorem AFI{f:Nat}(hf:ATw P f fn c){J:Nat→Nat→St→Option c.outs.V}(hJ:∀code,fn.body=some code→AAK C c fn code J)
  (hg:∀v u,c.g v=some u→ ∃n,∀ω,DR C c fn (J n) ω v=some u):Xe P f c:=by
 refine⟨hf.con,hf.call,fun E w v args u H_ hB hS hgv=> ?_⟩;obtain⟨n,hn⟩:=hg v u hgv;cases hb:fn.body with
 |none=>
  have:=hn [];simp only[DR,hb]at this;cases this
 |some code=>
  simp only[DR,hb]at hn;refine calls_of_wp hf.at_ hb ?_
  have hp:dL (bodyPost P fn (AP1 c E w u)):=fun ch a w' hq=>by
   obtain⟨_,x,E',hx,_⟩:=hq;cases hx
  have mA:Good E w fn.ntmps c.ins.Gr.length u (fun _=>q9 C.T c fn.results.toList) (fun _ _ _=>none) (fun _=>q9 C.T c fn.results.toList) (bodyPost P fn (AP1 c E w u)):=
   ⟨fun E' σ a w' h e=>sq hT h (e []),fun id E' σ a w' h e=>(by cases e []),fun E' σ a w' h e=>sq hT h (e [])⟩
  have Br:Ok E w fn.ntmps c.ins.Gr.length E (c.ins.st fn.ntmps v) { tmps:=args++Array.replicate (fn.ntmps-args.size) undef,defers:=[] } w:=by
   have htm:CT (XR E w (Jb.mk id c.ins.Gr v.2)) (Gt.mk id c.ins.Dy v.1 (List.replicate fn.ntmps (.c .undef))) (args++Array.replicate (fn.ntmps-args.size) undef).toList:=by
    rw[Array.toList_append];refine jH (fB hS) (CT.undef ?_);have:=hf.tmps;simp;omega
   refine⟨⟨rfl,htm,hB⟩,ck.refl E w,?_,by simp only[Ba.st];rw[TG];exact AQW _,fun _ _ _=>⟨rfl,rfl⟩⟩;simp only[Ba.st];rw[CT.len htm];have:=hf.tmps;simp;omega
  exact yb hT hΓ hm hp mA (ADi hT hΓ hm hb (hf.labels code hb) (hJ code hb) hp mA n) Br hn
end
end Go.Fw
end
section
namespace Go.Fw
def Fp:List Ty→Ty
 |[]=> .unit
 |c::l=> .cons c (Fp l)
def wz(row:TypeId→Option (List Ty×Bool))(cells:TypeId→Nat):Nat→List Field→Option (List Ty)
 |_,[]=>some []
 |o,f::fs=>
  match row f.type with
  |some (l,_)=>if f.offset=o∧cells f.type=l.length then(wz row cells (o+l.length) fs).map (l++ ·)else none
  |none=>none
def kX:List Ty×Bool→Ty
 |(l,true)=>Fp l
 |([c],false)=>c
 |_=> .unit
def rowOf(P:Program):Nat→TypeId→Option (List Ty×Bool)
 |0,_=>none
 |n+1,t=>
  match P.underlying t with
  |some (.int k)=>some ([.int k],false)
  |some .bool=>some ([.bool],false)
  |some .string=>some ([.str],false)
  |some (.slice e)=>
   match rowOf P n e with
   |some q=>if P.cellsOf e=q.1.length∧0<q.1.length then some ([.sl (kX q)],false)else none
   |none=>none
  |some (.struct fs)=>
   match wz (rowOf P n) P.cellsOf 0 fs.toList with
   |some l=>if P.cellsOf t=l.length then some (l,true)else none
   |none=>none
  |_=>none
def Vd:(t:Ty)→t.D→Prop
 | .int k,x=>(Lit.int k x).wf=true
 | .bool,_=>True
 | .str,x=>List.length x≤maxLen
 | .sl r,x=>List.length x≤maxLen∧ ∀y∈x,Vd r y
 | .unit,_=>True
 | .cons c r,x=>Vd c x.1∧Vd r x.2
theorem i7{α:Type}{p:Nat→α→Prop}:∀{n:Nat},(∀i,i<n→ ∃y,p i y)→ ∃x:List α,x.length=n∧ ∀(i:Nat) y,x[i]? =some y→p i y
 |0,_=>⟨[],rfl,fun i y h=>by simp at h⟩
 |n+1,h=>by
  obtain⟨x,h1,h2⟩:=i7 (n:=n) (p:=p) (fun i hi=>h i (by omega));obtain⟨y,hy⟩:=h n (by omega);refine⟨x++[y],by simp[h1],fun i z hz=> ?_⟩;grind
theorem sj{w:World}{B:Nat→Prop}:∀{l m:List Ty} {cs ds:List Value} {x:(Fp l).D} {y:(Fp m).D},Rd w B (Fp l) cs x→Rd w B (Fp m) ds y→Vd (Fp l) x→Vd (Fp m) y→
  ∃z:(Fp (l++m)).D,Rd w B (Fp (l++m)) (cs++ds) z∧Vd (Fp (l++m)) z
 |[],m,cs,ds,x,y,h,k,hx,hy=>by
  simp only[Fp,Rd]at h;subst h;exact⟨y,k,hy⟩
 |c::l,m,cs,ds,x,y,h,k,hx,hy=>by
  simp only[Fp,Rd]at h;obtain⟨v,r,rfl,h1,h2⟩:=h;obtain⟨z,z1,z2⟩:=sj h2 k hx.2 hy;exact⟨(x.1,z),by simp only[AWW,Fp,Rd];exact⟨v,r++ds,rfl,h1,z1⟩,hx.1,z2⟩
theorem ACo{P:Program}{n:Nat}{t:TypeId}{l:List Ty}(h:rowOf P n t=some (l,false)):∃c,l=[c]:=by
 cases n with
 |zero=>simp[rowOf]at h
 |succ n=>
  simp only[rowOf]at h;grind
theorem uo{w:World}{B:Nat→Prop}{P:Program}{n:Nat}{t:TypeId}{q:List Ty×Bool}(h:rowOf P n t=some q){cs:List Value}{x:(Fp q.1).D}(hx:Rd w B (Fp q.1) cs x)(hv:Vd (Fp q.1) x):
  (kX q).n=q.1.length∧ ∃y:(kX q).D,Rd w B (kX q) cs y∧Vd (kX q) y:=by
 obtain⟨l,b⟩:=q;cases b with
 |true=>
  refine⟨?_,x,hx,hv⟩;clear h hx hv x;simp only[kX]
  induction l with
  |nil=>rfl
  |cons c l ih=>simp[Fp,Ty.n,ih]
 |false=>
  obtain⟨c,rfl⟩:=ACo h;simp only[Fp,Rd]at hx;obtain⟨v,r,rfl,h1,h2⟩:=hx;subst h2;refine⟨?_,x.1,h1,hv.1⟩;have:=lQ h1;grind[kX]
theorem ACU(a:Addr):a.add 0=a:=by rfl
theorem ACy{w:World}{a:Addr}{v:Value}(h:w.cell? a=some v):a.spot=none:=by
 unfold World.cell? at h;split at h
 all_goals simp_all
section
variable{H:Type} {enc:TypeId×Value→H} {P:Program} {w:World} {spare:Nat→Bool} {held:Bool}
theorem iE:∀(n:Nat) {t:TypeId} {q:List Ty×Bool},rowOf P n t=some q→ ∀{fuel:Nat} {cs:List Value} {x:DataW H×List MemPlace},DataW.trod enc P w 0 spare held fuel t cs=some x→
  ∃y:(Fp q.1).D,Rd w (fun b=>b<w.heap.size) (Fp q.1) cs y∧Vd (Fp q.1) y
 |0,t,q,h,_,_,_,_=>by simp[rowOf]at h
 |n+1,t,q,h,fuel,cs,x,hx=>by
  simp only[rowOf]at h;split at h
  ·rename_i k hu
   cases h;obtain⟨m,rfl,_,hw⟩:=DataW.trod_int hu hx;exact⟨(m,()),by simp[Fp,Rd],hw,trivial⟩
  ·rename_i hu
   cases h;obtain⟨b,rfl,_⟩:=DataW.trod_bool hu hx;exact⟨(b,()),by simp[Fp,Rd],trivial,trivial⟩
  ·rename_i hu
   cases h;obtain⟨s,rfl,_,hs⟩:=DataW.trod_string hu hx;refine⟨(s.data.toList,()),by simp[Fp,Rd],?_,trivial⟩
   show s.data.toList.length≤maxLen
   simp_all
  ·rename_i e hu
   split at h
   case h_2=>cases h
   rename_i q' hq';split at h
   case isFalse=>cases h
   rename_i AEX;cases h;rcases DataW.trod_slice hu hx with⟨rfl,_⟩|⟨a,len,cap,elems,rest,m,_,rfl,_,_,hlc,hcm,T7,OY,_,_⟩
   ·refine⟨([],()),?_,⟨by simp,by simp⟩,trivial⟩
    simp only[Fp,Rd];simp_all
   ·have each:∀i,i<len→ ∃y:(kX q').D,Vd (kX q') y∧ ∃ds,ds.length=(kX q').n∧(∀j,j<ds.length→w.cell? ((a.add (i*P.cellsOf e)).add j)=ds[j]?)∧Rd w (fun b=>b<w.heap.size) (kX q') ds y:=by
     intro i hi;have hz:elems[i]? =some (elems[i]'(by omega)):=AL5 _;have h1:=OY i hi;rw[hz,AMQ]at h1;obtain⟨ds,hds,htr⟩:=h1;obtain⟨z,z1,z2⟩:=iE n hq' htr;obtain⟨_,c1,c2⟩:=World.cells?_some hds
     grind[uo]
    obtain⟨xs,x1,x2⟩:=i7 each;refine⟨(xs,()),?_,⟨by grind,fun y hy=> ?_⟩,trivial⟩
    ·simp only[Fp,Rd]
     refine⟨_,[],rfl,⟨_,cap,by rw[x1],by omega,?_⟩,rfl⟩;by_cases h0:len=0
     ·omega
     right
     obtain⟨y0,_,ds0,d0,d1,_⟩:=each 0 (by omega);have hn0:0<(kX q').n:=by
      rw[d0.symm];have hz:elems[0]? =some (elems[0]'(by omega)):=AL5 _;have h1:=OY 0 (by omega);rw[hz,AMQ]at h1;obtain⟨ds,hds,htr⟩:=h1;obtain⟨z,z1,z2⟩:=iE n hq' htr;grind[uo]
     have hc0:=d1 0 (by omega);simp only[Nat.zero_mul,ACU]at hc0;have wi:w.cell? a=some (ds0[0]'(by omega)):=by simp_all
     have hsp:=ACy wi;obtain⟨b,o,s⟩:=a;simp only at hsp;subst hsp;refine⟨b,o,rfl,?_,fun i y hy=> ?_⟩
     ·grind[World.cell?,Array.getElem?_eq_some_iff]
     ·have hil:=(AMK.1 hy).1
      obtain⟨_,ds,e0,e1,e2⟩:=x2 i y hy;have hcn:P.cellsOf e=(kX q').n:=by
       have hz:elems[i]? =some (elems[i]'(by omega)):=AL5 _;have h1:=OY i (by omega);rw[hz,AMQ]at h1;obtain⟨ds,hds,htr⟩:=h1;obtain⟨z,z1,z2⟩:=iE n hq' htr;grind[uo]
      refine⟨ds,e0,fun j v hj=> ?_,e2⟩;grind[List.getElem?_eq_some_iff,Addr.add_eq]
    ·obtain⟨i,hi,rfl⟩:=AQa hy
     exact(x2 i _ (AL5 hi)).1
  ·rename_i fs hu
   split at h
   case h_2=>cases h
   rename_i l hl;split at h
   case isFalse=>cases h
   rename_i cO;cases h;obtain⟨xs,m,_,_,hlen,hxs,OY⟩:=DataW.trod_struct hu hx;have key:∀(fs:List Field) (o:Nat) (l:List Ty) (i0:Nat),wz (rowOf P n) P.cellsOf o fs=some l→cs.length=o+l.length→(∀(i:Nat) (f:Field),fs[i]? =some f→ ∃z,DataW.trod enc P w 0 spare held m f.type ((cs.drop f.offset).take (P.cellsOf f.type))=some z)→
     ∃y:(Fp l).D,Rd w (fun b=>b<w.heap.size) (Fp l) (cs.drop o) y∧Vd (Fp l) y:=by
    intro fs
    induction fs with
    |nil=>
     intro o l i0 hl hc _;simp only[wz,AMF]at hl;subst hl;refine⟨(),?_,trivial⟩;simp only[Fp,Rd];simp_all
    |cons f fs ih=>
     intro o l i0 hl hc OY;simp only[wz]at hl;split at hl
     case h_2=>cases hl
     rename_i l1 b1 hr;split at hl
     case isFalse=>cases hl
     rename_i hof;simp only[AMI]at hl;obtain⟨l2,xr,rfl⟩:=hl;obtain⟨z,hz⟩:=OY 0 f rfl;obtain⟨y1,a1,a2⟩:=iE n hr hz;obtain⟨y2,b1,b2⟩:=ih (o+l1.length) l2 0 xr (by grind) (fun i f hf=>OY (i+1) f (by simp_all));grind[sj,List.drop_drop,List.take_append_drop]
   have:=key fs.toList 0 l 0 hl (by omega) (fun i f hf=>by
    grind)
   simp_all
  simp_all
end
end Go.Fw
end
section
open Go.RowKit
namespace Go.Fw
def vA(W:World):Env:={ Hk:=fun _=>0,Hl:=fun _=> .nilFunc,T:=fun b=>b<W.heap.size,S:=fun b=>b<W.heap.size }
abbrev qN:Ba:=⟨[(0,.c (.v .bool))],[]⟩
theorem ACr{P:Program}{f:Nat}{Dy:List (Nat×XP)}{g:Ba.V ⟨Dy,[]⟩→Option qN.V}(hs:Xe P f ⟨⟨Dy,[]⟩,qN,g⟩){W:World}{args:Array Value}(x:Gt.V Dy)(hlen:args.size=Dy.length)
  (hx:OW (vA W) W [] id Dy x args.toList) (hg:g (x,())=some ((true,()),())):Calls P f args W fun e W' =>e= .returned (.bool true)∧Below W.heap.size W W':=by
 obtain⟨_,_,h⟩:=hs;refine(h (vA W) W (x,()) args _ hlen ⟨[],⟨rfl,fun k B F h=>by simp_all⟩,by simp,by simp,by simp,fun _ h=>h,fun _ h=>h⟩ hx hg).mono fun e W' hR=> ?_
 obtain⟨v,E',rfl,base,_,⟨⟨v',hv,hxr⟩,_⟩,_⟩:=hR;simp at hv;subst hv;have:v= .bool true:=by
  have h2:VR E' W' [] (.v .bool true) v:=hxr;exact Rg h2
 subst this;exact⟨rfl,base.os,base.tape,base.output,base.size,fun k hk=>base.heap k hk⟩
theorem AIz{W:World}{vw:List Bx}{s:Bool}{r:Ty}{v:Value}{y:List r.D}(h:Rd W (fun b=>b<W.heap.size) (.sl r) [v] y):XR (vA W) W vw (XP.mk id (.c (.sl s r)) y) v:=by
 show Rd W (if s then _ else _) (.sl r) [v] y
 cases s<;>exact h
end Go.Fw
end
section
namespace Go.Fw
def Q_:List (Nat×QU)→Nat→Option QU
 |[],_=>none
 |(f,c)::l,g=>if f=g then some c else Q_ l g
def AGk(P:Program):List (Nat×QU)→Prop
 |[]=>True
 |q::l=>Xe P q.1 q.2∧AGk P l
theorem qc{P:Program}:∀{l:List (Nat×QU)},AGk P l→fZ P (Q_ l)
 |[],_=>fun f c e=>by cases e
 |(g,d)::l,h=>fun f c e=>by
  simp only[Q_]at e;split at e
  ·rename_i hg
   cases e;subst hg;exact h.1
  ·exact qc h.2 f c e
theorem XS{P:Program}{f:Nat}{fn:Func}(hf:P.funcs[f]? =some fn)(hn:(fn.name== "runtime.NumGoroutine")=false)(hb:fn.body.isNone=false)(args:Array Value)(w:World):
  (callFunc f args).run P w= .ok (.enter f args) w:=by
 have h1:fn.name≠ "runtime.NumGoroutine" :=by simp_all
 have h2:fn.body≠none:=by
  grind
 simp[callFunc,hf,h1,h2]
def iA(fn:Func)(c:QU):Bool:=
 !(
  fn.name== "runtime.NumGoroutine")&& !fn.body.isNone&&c.ok&&decide (c.ins.Dy.length≤fn.ntmps)&&(match fn.body with
  |some code=>decide (labels code).Nodup
  |none=>true)
theorem AYl{P:Program}{f:Nat}{fn:Func}{c:QU}(hf:P.funcs[f]? =some fn)(h:iA fn c=true):ATw P f fn c:=by
 simp only[iA,AML,AS9,AMc]at h;obtain⟨⟨⟨⟨h1,h2⟩,h3⟩,h4⟩,h5⟩:=h;refine⟨hf,XS hf h1 h2,h3,h4,fun code hc=> ?_⟩;simp_all
def gq(C:aN)(c:QU)(fn:Func)(J:Nat→Nat→St→Option c.outs.V):List Nat→Prop
 |[]=>True
 | ℓ ::l=>(∃(s:Ba) (F:Nat→s.V→Option c.outs.V),(∀n,J n ℓ =jump c.ins.Gr.length s (F n))∧(∀v,F 0 v=none)∧
  ∀n v,∀ω,JR C c fn (J n) ℓ ω (s.st fn.ntmps v)=F (n+1) v)∧gq C c fn J l
theorem gq.ok{C:aN}{c:QU}{fn:Func}{J:Nat→Nat→St→Option c.outs.V}:∀{l:AA4},gq C c fn J l→ ∀ ℓ ∈l,∃(s:Ba) (F:Nat→s.V→Option c.outs.V),(∀n,J n ℓ =jump c.ins.Gr.length s (F n))∧(∀v,F 0 v=none)∧
  ∀n v y,F (n+1) v=some y→ ∀ω,JR C c fn (J n) ℓ ω (s.st fn.ntmps v)=some y
 |[],_,ℓ,h=>by cases h
 |k::l,hl,ℓ,h=>by
  rcases ANv.1 h with rfl|h
  ·obtain⟨⟨s,F,h1,h2,h3⟩,_⟩:=hl
   exact⟨s,F,h1,h2,fun n v y e ω=>(h3 n v ω).trans e⟩
  ·exact gq.ok hl.2 ℓ h
def jW(fn:Func):AA4:=
 match fn.body with
 |some code=>labels code
 |none=>[]
def CX:List AF9→Nat→List Nat
 |[],_=>[]
 |(r,h)::l,q=>if r=q then h else CX l q
theorem AFb{P:Program}{T:JY}{l:List (Nat×QU)}{hint:Nat→List Nat}{f:Nat}{fn:Func}{c:QU}(hT:Eo P T)(hm:P.follows .mixedOrders=true)(hf:P.funcs[f]? =some fn)(hl:AGk P l)(hc:iA fn c=true)
  {J:Nat→Nat→St→Option c.outs.V} {L:AA4} (hL:jW fn=L) (hJ:gq ⟨T,Q_ l,hint⟩ c fn J L) (n:Nat) (he:∀ω v,DR ⟨T,Q_ l,hint⟩ c fn (J n) ω v=c.g v):Xe P f c:=
 AFI (C:=⟨T,Q_ l,hint⟩) hT (qc hl) hm (AYl hf hc) (J:=J) (fun code hb ℓ hℓ =>gq.ok hJ ℓ (by
  grind[jW])) fun v u hg=>⟨n,fun ω=>(he ω v).trans hg⟩
end Go.Fw
end
section
namespace Go.M
abbrev Dr:Nat:=Go.Fw.Dr
def AZ(x:Int):Int:=IntKind.wrap .i64 x
def cP(κ:IntKind)(a b:Int):Int:=κ.wrap (BitVec.ofInt κ.bits a &&& BitVec.ofInt κ.bits b).toNat
def bOr(κ:IntKind)(a b:Int):Int:=κ.wrap (BitVec.ofInt κ.bits a ||| BitVec.ofInt κ.bits b).toNat
def AOD(κ:IntKind)(a b:Int):Int:=κ.wrap (BitVec.ofInt κ.bits a ^^^ BitVec.ofInt κ.bits b).toNat
theorem oP:∃n:Nat,2^64≤n:=⟨_,AQW _⟩
noncomputable def Ae:Nat:=Classical.choose oP
theorem dw:2^64≤Ae:=Classical.choose_spec oP
def vY{α:Type}(p:Int)(v l:List α):Option (List α):=if 0≤p∧p≤(l.length:Int)∧l.length+v.length≤Dr then some (l.take p.toNat++v++l.drop p.toNat)else none
def AEh{α:Type}(p q:Int)(l:List α):Option (List α):=if 0≤p∧p≤q∧q≤(l.length:Int)then some (l.take p.toNat++l.drop q.toNat)else none
end Go.M
end
section
namespace Go.Fw
structure SP (P:Program) where
 f:Nat
 c:QU
 h:Xe P f c
def SP.l{P:Program}:List (SP P)→List (Nat×QU)
 |[]=>[]
 |s::l=>(s.f,s.c)::SP.l l
theorem zy{P:Program}:∀l:List (SP P),AGk P (SP.l l)
 |[]=>trivial
 |s::l=>⟨s.h,zy l⟩
@[reducible] def AP.Cu (R:Type):AP→Type
 | .qt _ rs=>ZB rs→R
 | .v t=>t.D→R
 | .sl _ r=>List r.D→R
 | .my r=>r.D→R
 | .kY _ _=>Nat×Nat→R
 |_=>R
def AP.un{R:Type}:(p:AP)→p.Cu R→p.V→R
 | .qt _ _,f,x=>f x
 | .v _,f,x=>f x
 | .sl _ _,f,x=>f x
 | .my _,f,x=>f x
 | .kY _ _,f,x=>f x
 | .nil,f,_=>f
 | .ref _,f,_=>f
 | .ptr _ _,f,_=>f
 | .fn _ _,f,_=>f
 | .any,f,_=>f
@[reducible] def Xi.Cu (R:Type):List AP→Type
 |[]=>R
 |p::l=>p.Cu (Xi.Cu R l)
def Xi.un{R:Type}:(l:List AP)→Xi.Cu R l→Xi.V l→R
 |[],f,_=>f
 |p::l,f,x=>Xi.un l (p.un f x.1) x.2
@[reducible] def Ya.Cu (R:Type):List (AP ⊕ List AP)→Type
 |[]=>R
 | .inl p::l=>p.Cu (Ya.Cu R l)
 | .inr q::l=>Xi.Cu (Ya.Cu R l) q
def Ya.un{R:Type}:(l:List (AP ⊕ List AP))→Ya.Cu R l→Ya.V l→R
 |[],f,_=>f
 | .inl p::l,f,x=>Ya.un l (p.un f x.1) x.2
 | .inr q::l,f,x=>Ya.un l (Xi.un q f x.1) x.2
@[reducible] def XP.Cu (R:Type):XP→Type
 | .c p=>p.Cu R
 | .agg l=>Xi.Cu R l
 | .row r=>r.D→R
 | .MH l=>Ya.Cu R l
def XP.un{R:Type}:(p:XP)→p.Cu R→p.V→R
 | .c p,f,x=>p.un f x
 | .agg l,f,x=>Xi.un l f x
 | .row _,f,x=>f x
 | .MH l,f,x=>Ya.un l f x
@[reducible] def BP.Cu (R:Type):BP→Type
 | .mem l=>Xi.Cu R l
 | .sl _ r=>List r.D→R
 | .gone=>R
def BP.un{R:Type}:(p:BP)→p.Cu R→p.V→R
 | .mem l,f,x=>Xi.un l f x
 | .sl _ _,f,x=>f x
 | .gone,f,_=>f
@[reducible] def Gt.Cu (R:Type):List (Nat×XP)→Type
 |[]=>R
 |(_,p)::l=>p.Cu (Gt.Cu R l)
def Gt.un{R:Type}:(l:List (Nat×XP))→Gt.Cu R l→Gt.V l→R
 |[],f,_=>f
 |(_,p)::l,f,x=>Gt.un l (p.un f x.1) x.2
@[reducible] def Jb.Cu (R:Type):List BP→Type
 |[]=>R
 |p::l=>p.Cu (Jb.Cu R l)
def Jb.un{R:Type}:(l:List BP)→Jb.Cu R l→Jb.V l→R
 |[],f,_=>f
 |p::l,f,x=>Jb.un l (p.un f x.1) x.2
@[reducible] def Ba.Cu (s:Ba) (R:Type):Type:=Gt.Cu (Jb.Cu R s.Gr) s.Dy
def Ba.un{R:Type}(s:Ba)(f:s.Cu R)(v:s.V):R:=Jb.un s.Gr (Gt.un s.Dy f v.1) v.2
structure Lp (o:Ba) where
 ℓ :Nat
 s:Ba
 F:Nat→s.Cu (Option o.V)
def M9{o:Ba}(nb:Nat):List (Lp o)→Nat→Nat→St→Option o.V
 |[],_,_,_=>none
 |p::l,n,ℓ,σ=>if ℓ =p.ℓ then jump nb p.s (p.s.un (p.F n)) σ else M9 nb l n ℓ σ
inductive Wg (C:aN) (c:QU) (fn:Func) (J:Nat→Nat→St→Option c.outs.V):List (Lp c.outs)→Prop
 |nil:Wg C c fn J []
 |cons {ℓ :Nat} {s:Ba} {F:Nat→s.Cu (Option c.outs.V)} {l:List (Lp c.outs)} (h0:∀v,s.un (F 0) v=none) (h1:∀n v ω,JR C c fn (J n) ℓ ω (s.st fn.ntmps v)=s.un (F (n+1)) v) (h:Wg C c fn J l):Wg C c fn J (⟨ℓ,s,F⟩::l)
def Lp.ls{o:Ba}:List (Lp o)→List Nat
 |[]=>[]
 |p::l=>p.ℓ ::Lp.ls l
theorem AEt{o:Ba}{nb:Nat}:∀{l:List (Lp o)} (n:Nat) {ℓ :Nat} (p:Lp o) (pre:List (Lp o)),ℓ =p.ℓ →(Lp.ls (pre++p::l)).Nodup→M9 nb (pre++p::l) n ℓ =jump nb p.s (p.s.un (p.F n))
 |l,n,ℓ,p,[],e,_=>by
  funext σ
  simp[M9,e]
 |l,n,ℓ,p,q::pre,e,hn=>by
  funext σ
  have hq: ℓ ≠q.ℓ :=by
   intro h;simp only[AWW,Lp.ls,AW6]at hn;refine hn.1 ?_
   rw[←h,e];clear hn h e
   induction pre with
   |nil=>simp[Lp.ls]
   |cons a m ih=>simp[Lp.ls,ih]
  have:=congrFun (AEt (nb:=nb) (l:=l) n p pre e (by grind[Lp.ls,List.nodup_cons])) σ;simp only[AWW,M9,AMD hq];omega
theorem Wg.ok{C:aN}{c:QU}{fn:Func}{nb:Nat}(hb:nb=c.ins.Gr.length){L:List (Lp c.outs)}(hn:(Lp.ls L).Nodup):∀{l pre:List (Lp c.outs)},L=pre++l→Wg C c fn (M9 nb L) l→gq C c fn (M9 nb L) (Lp.ls l)
 |[],_,_,_=>trivial
 |⟨ℓ,s,F⟩::l,pre,e,.cons h0 h1 h=>by
  refine⟨⟨s,fun n=>s.un (F n),fun n=> ?_,h0,fun n v ω=>h1 n v ω⟩,Wg.ok hb hn (pre:=pre++[⟨ℓ,s,F⟩]) (by simp[e]) h⟩;subst hb;rw[e];exact AEt n ⟨ℓ,s,F⟩ pre rfl (by simp_all)
def mkP{P:Program}{T:JY}(hT:Eo P T)(hm:P.follows .mixedOrders=true){f:Nat}{fn:Func}(hf:P.funcs[f]? =some fn)(i o:Ba)(g:i.Cu (Option o.V))(l:List (SP P))(h:List AF9)(L:List (Lp o))(n:Nat)
  (hL:jW fn=Lp.ls L) (hd:decide (Lp.ls L).Nodup=true) (hc:iA fn ⟨i,o,i.un g⟩=true)
  (hJ:Wg ⟨T,Q_ (SP.l l),CX h⟩ ⟨i,o,i.un g⟩ fn (M9 i.Gr.length L) L)
  (he:∀ω v,DR ⟨T,Q_ (SP.l l),CX h⟩ ⟨i,o,i.un g⟩ fn (M9 i.Gr.length L n) ω v=i.un g v):SP P:=
 ⟨f,⟨i,o,i.un g⟩,AFb (l:=SP.l l) hT hm hf (zy l) hc (J:=M9 i.Gr.length L) (L:=Lp.ls L) hL (Wg.ok rfl (by simp_all) (pre:=[]) rfl hJ) n he⟩
theorem AF{Q:List Bool→Prop}(a:Q [])(b:∀ω,Q (false::ω))(d:∀ω,Q (true::ω)):∀ω,Q ω
 |[]=>a
 |false::ω=>b ω
 |true::ω=>d ω
end Go.Fw
end
section
namespace Go.Fw
open Go.Proofs Go.Shelf Go.RowKit Go.Lib
structure dh (P:Program) (ρ:Ren) (nm:String) (fv:Func):Prop where
 mixed:P.follows .mixedOrders=true
 f22:P.funcs[ρ.f 22]? =some { Body2.n22 ρ with name:=nm }
 n22:(nm== "runtime.NumGoroutine")=false
 f29:P.funcs[ρ.f 29]? =some fv
 n29:(fv.name== "runtime.NumGoroutine")=false
 b29:fv.body.isNone=true
 e29:Extern.findNext fv=none
 x29:Extern.find fv=some (Extern.SlicesOverlaps.overlaps #[(ρ.t 24),(ρ.t 24)] #[(ρ.t 4)])
 t0:P.underlying (ρ.t 0)=some (TypeDesc.tuple #[])
 a0:∀w,(isAgg (ρ.t 0)).run P w= .ok false w
 z0:∀w,(Go.sizeOf (ρ.t 0)).run P w= .ok 1 w
 v0:∀w,(zeroValue (ρ.t 0)).run P w= .ok (Value.tuple #[]) w
 t3:P.underlying (ρ.t 3)=some (TypeDesc.int IntKind.i64)
 a3:∀w,(isAgg (ρ.t 3)).run P w= .ok false w
 z3:∀w,(Go.sizeOf (ρ.t 3)).run P w= .ok 1 w
 v3:∀w,(zeroValue (ρ.t 3)).run P w= .ok (Value.int IntKind.i64 0) w
 t4:P.underlying (ρ.t 4)=some (TypeDesc.bool)
 a4:∀w,(isAgg (ρ.t 4)).run P w= .ok false w
 z4:∀w,(Go.sizeOf (ρ.t 4)).run P w= .ok 1 w
 v4:∀w,(zeroValue (ρ.t 4)).run P w= .ok (Value.bool false) w
 t24:P.underlying (ρ.t 24)=some (TypeDesc.slice (ρ.t 9))
 a24:∀w,(isAgg (ρ.t 24)).run P w= .ok false w
 z24:∀w,(Go.sizeOf (ρ.t 24)).run P w= .ok 1 w
 v24:∀w,(zeroValue (ρ.t 24)).run P w= .ok (Value.slice none 0 0) w
section
variable{P:Program} {ρ:Ren} {nm:String} {fv:Func}
theorem bQ{w:World}{dT sT ty elem:TypeId}{i0:TypeInfo}{b o AT7 Aai Us i6 n:Nat}{a:Option Addr}{cs:List Value}(hu:P.underlying dT=some (.slice elem))(hi:P.info? elem=some i0)(hn:n=Nat.min Us AT7)
  (ANI:∀W:World,W=w→(Builtin.firstCells i0.size n (.slice a Us i6)).run P W= .ok cs.toArray W) (pQ:w.there b o cs.length) (h1:∀v∈cs,v.oneCell' =true):
  (Builtin.copy_ #[dT,sT] ty #[.slice (some ⟨b,o,none⟩) AT7 Aai,.slice a Us i6]).run P w= .ok (goInt n) (w.setCells b o cs):=by
 have fN:=run_storeCells_cells (P:=P) b o cs 0 w (by simpa using fun j hj=>(pQ j hj).1) (by simpa using fun j hj=>(pQ j hj).2) h1;rw[AUN]at fN;have:=ANI w rfl;simp[Builtin.copy_,run_underlying hu,Builtin.lenOf,sizeOf,typeInfo,hi,←hn,this,fN]
set_option maxHeartbeats 4000000 in
set_option maxRecDepth 100000 in
theorem AF4(L:dh P ρ nm fv){k:Nat}(z9:∀w,(Go.sizeOf (ρ.t 9)).run P w= .ok k w)(ad:Option Addr)(n c i:Nat)(va:Option Addr)(vc:Nat)(w:World)(hi:i≤n)(hnc:n≤c):
  Calls P (ρ.f 22) #[.slice ad n c,.int .i64 i,.slice va 0 vc] w fun e w' =>e= .returned (.slice ad n c)∧w' =w:=by
 have t0:=L.t0;have a0:=L.a0;have z0:=L.z0;have v0:=L.v0;have t3:=L.t3;have a3:=L.a3;have z3:=L.z3;have v3:=L.v3;have t4:=L.t4;have a4:=L.a4;have z4:=L.z4;have v4:=L.v4;have t24:=L.t24;have a24:=L.a24;have z24:=L.z24;have v24:=L.v24;have u0:=run_underlying L.t0;have u3:=run_underlying L.t3;have u4:=run_underlying L.t4;have Xj:=run_underlying L.t24;have mixed:=L.mixed
 go_enter L.f22,Body2.n22_ntmps ρ
 cases ad with
 |none=>
  go_wp2
  go_ret
  exact⟨rfl,rfl⟩
 |some a=>
  obtain⟨ab,ao,asp⟩:=a
  go_wp2
  all_goals (go_ret;exact⟨rfl,rfl⟩)
theorem kg{w:World}(tS tR e:TypeId)(ht:P.underlying tS=some (.slice e))(size:Nat)(hz:∀w,(Go.sizeOf e).run P w= .ok size w)
  (a b:Addr) (la ca lb cb:Nat) (cF:a.block≠b.block) (tA tB:TypeId) (kA kB:Nat)
  (hsa:w.shape? a.block=some (tA,kA)) (hsb:w.shape? b.block=some (tB,kB)) (hkA:kA≠0)
  (hfb:w.frozen? b=false) (hfe:w.frozen? { block:=b.block,off:=kB }=false):
  (Extern.SlicesOverlaps.overlaps #[tS,tS] #[tR] #[.slice (some a) la ca,.slice (some b) lb cb]).run P w= .ok (.bool false) w:=by
 have qp:(a.block !=b.block)=true:=by simp_all
 have AYw:(a.block==b.block)=false:=by simp_all
 change Sem.run P (α:=Value) (do
  let some t:=(#[tS,tS]:Array TypeId)[0]?|stuck "slices.overlaps: no parameter types"
  let .slice elem←underlying t|stuck "slices.overlaps: slice type expected"
  let size←sizeOf elem
  match(some a:Option Addr),(some b:Option Addr)with
  |some a,some b=>
   if la=0∨lb=0∨size=0 then pure (Value.bool false)
   else if a.block !=b.block&&(←frozen a)&&(←frozen b)then unsupported .addressObserved
   else do
    if a.block !=b.block then do
     noView a;noView b
     if←mayBeOne a b then return Value.bool ((←choose (.extern "sameAddr.stringBytes" 2))==1)
    pure (Value.bool (a.block==b.block&&a.off<b.off+lb*size&&b.off<a.off+la*size))
  |_,_=>pure (Value.bool false)) w=_
 by_cases h0:la=0∨lb=0∨size=0
 ·simp[run_underlying ht,hz,h0]
 ·cases kA with
  |zero=>omega
  |succ kA=>
   cases hfa:w.frozen? a<;>cases hfae:w.frozen? { block:=a.block,off:=kA+1 }<;>
    simp[run_underlying ht,hz,h0,qp,AYw,frozen,noView,viewAt,mayBeOne,stringish,shape,Sem.run,hsa,hsb,hfb,hfe,hfa,hfae]
set_option maxHeartbeats 4000000 in
set_option maxRecDepth 100000 in
theorem ABL(L:dh P ρ nm fv){i0:TypeInfo}(vV:P.info? (ρ.t 9)=some i0)(hs0:0<i0.size)(b off n c i:Nat)(va:Addr)(m vc:Nat)(cs vs:List Value)(w:World)(hi:i<n)(hm:0<m)(Sk:n+m≤c)(Zk:n+m≤Dr)(hvb:va.block≠b)
  (cO:cs.length=n*i0.size) (hvl:vs.length=m*i0.size) (wi:Bc w b off cs) (pQ:w.there b off ((n+m)*i0.size))
  (VC:∀W:World,W.heap[va.block]? =w.heap[va.block]?→(Builtin.firstCells i0.size m (.slice (some va) m vc)).run P W= .ok vs.toArray W) (h1c:∀v∈cs,v.oneCell' =true) (h1v:∀v∈vs,v.oneCell' =true)
  (tA tB:TypeId) (kA kB:Nat) (hsa:w.shape? va.block=some (tA,kA)) (hsb:w.shape? b=some (tB,kB)) (hkA:kA≠0) (hfe:w.frozen? ⟨b,kB,none⟩=false):
  Calls P (ρ.f 22) #[.slice (some ⟨b,off,none⟩) n c,.int .i64 i,.slice (some va) m vc] w fun e w' =>
   e= .returned (.slice (some ⟨b,off,none⟩) (n+m) c)∧ ∃W:World,W.heap=w.heap∧Grown w W∧w' =(W.setCells b (off+(i+m)*i0.size) (cs.drop (i*i0.size))).setCells b (off+i*i0.size) vs:=by
 have t0:=L.t0;have a0:=L.a0;have z0:=L.z0;have v0:=L.v0;have t3:=L.t3;have a3:=L.a3;have z3:=L.z3;have v3:=L.v3;have t4:=L.t4;have a4:=L.a4;have z4:=L.z4;have v4:=L.v4;have t24:=L.t24;have a24:=L.a24;have z24:=L.z24;have v24:=L.v24;have u0:=run_underlying L.t0;have u3:=run_underlying L.t3;have u4:=run_underlying L.t4;have Xj:=run_underlying L.t24;have z9:∀w,(Go.sizeOf (ρ.t 9)).run P w= .ok i0.size w:=fun w=>by simp[sizeOf,typeInfo,vV]
 have mixed:=L.mixed;have AFA:=Zk;simp only[Dr]at AFA;have hz1: ¬((m:Int)=0):=by omega
 have hz2: ¬((i:Int)=(n:Int)):=by omega
 generalize hk:i0.size=k at*
 have hmul:(i+m)*k≤(n+m)*k:=AOr _ (by omega);have AFx:i*k≤n*k:=AOr _ (by omega);have Kg:(i+m)*k<(n+m)*k:=Nat.mul_lt_mul_of_pos_right (by omega) hs0;have tP:(n+m)*k=n*k+m*k:=ATn ..;have him:(i+m)*k=i*k+m*k:=ATn ..;have hov:∀lb cb,(callFunc (ρ.f 29) #[.slice (some va) m vc,.slice (some ⟨b,off+(i+m)*k,none⟩) lb cb]).run P w= .ok (.value (.bool false)) w:=fun lb cb=>by
  rw[run_callFunc_extern L.f29 L.n29 L.b29 L.e29 L.x29,
   kg (ρ.t 24) (ρ.t 4) (ρ.t 9) L.t24 k z9 va ⟨b,off+(i+m)*k,none⟩ m vc lb cb hvb tA tB kA kB hsa hsb hkA (pQ _ Kg).2 hfe]
  rfl
 have hdl:(cs.drop (i*k)).length=(n-i)*k:=by rw[AWf,cO,AWR]
 have hw1:IntKind.i64.wrap ((i:Int)+(m:Int))=(i:Int)+(m:Int):=by rw[IntKind.wrap_i64];omega
 have hb1:(0:Int)≤(i:Int)+(m:Int):=by omega
 have PY:i≤n:=by omega
 have htn:((i:Int)+(m:Int)).toNat=i+m:=by omega
 have hb2: ¬(c=i+m):=by omega
 have hb3:(i:Int)≤(n:Int)+(m:Int):=by omega
 have hb4: ¬(c=i):=by omega
 have AVh:∀ty dc sc,(Builtin.copy_ #[(ρ.t 24),(ρ.t 24)] ty #[.slice (some ⟨b,off+(i+m)*k,none⟩) (n+m-(i+m)) dc,.slice (some ⟨b,off+i*k,none⟩) (n+m-i) sc]).run P w.drew= .ok (goInt (n-i:Nat)) (w.drew.setCells b (off+(i+m)*k) (cs.drop (i*k))):=fun ty dc sc=>
  bQ (n:=n-i) L.t24 vV (by simp only[Nat.min_def];split<;>omega) (fun W hW=>by
   subst hW;simp only[Builtin.firstCells,hk];have hl:Bc w.drew b (off+i*k) (cs.drop (i*k)):=fun j v hj=>by
    rw[AWm]at hj;have:=wi _ v hj
    rwa [←AT8]at this
   rw[←hdl];exact LL hl) (fun j hj=>by
    rw[hdl]at hj;have:(i+m)*k+j<(n+m)*k:=by
     rw[tP,him];have:(n-i)*k=n*k-i*k:=AWR ..;omega
    have:=pQ _ this;rw[←AT8]at this;exact this) (fun v hv=>h1c v (AVs hv))
 obtain⟨W1,hW1⟩:∃W1,W1=w.drew.setCells b (off+(i+m)*k) (cs.drop (i*k)):=⟨_,rfl⟩;have Abp:W1.heap[va.block]? =w.heap[va.block]?:=by rw[hW1];exact DP _ _ _ _ _ hvb
 have ARu:W1.there b (off+i*k) vs.length:=fun j hj=>by
  rw[hvl]at hj;have h0:=pQ (i*k+j) (by omega);rw[←AT8]at h0;rw[hW1];refine⟨?_,?_⟩
  ·refine isSome_setCells b _ _ _ (fun t ht=> ?_) _ h0.1
   rw[hdl]at ht;have h2:(i+m)*k+t<(n+m)*k:=by
    rw[tP,him];have:(n-i)*k=n*k-i*k:=AWR ..;omega
   have:=(pQ _ h2).1;rw[←AT8]at this;exact this
  ·rw[World.frozen?_setCells]
   exact h0.2
 have AaH:∀(W:World),(∀x,W.cell? x=W1.cell? x)→(∀x,W.frozen? x=W1.frozen? x)→W.heap=W1.heap→ ∀ty dc,(Builtin.copy_ #[(ρ.t 24),(ρ.t 24)] ty #[.slice (some ⟨b,off+i*k,none⟩) (n+m-i) dc,.slice (some va) m vc]).run P W= .ok (goInt m) (W.setCells b (off+i*k) vs):=fun W hWc hWf si ty dc=>
  bQ (n:=m) L.t24 vV (by simp only[Nat.min_def];split<;>omega) (fun V hV=>by subst hV;rw[hk];exact VC _ (by rw[si];exact Abp)) (fun j hj=>⟨by rw[hWc];exact(ARu j hj).1,by rw[hWf];exact(ARu j hj).2⟩) h1v
 rw[←hW1]at AVh;obtain⟨vab,vao,vas⟩:=va;clear hmul AFx Kg tP him pQ ARu wi hdl
 go_enter L.f22,Body2.n22_ntmps ρ
 go_wp2_with (simp only[hov])
 go_region_law_o (refine step_copy_runI rfl _ _ (ρ.t 24) (ρ.t 24) rfl _ _ (by simp[Act.eval,Act.put]) (by simp[Act.eval,Act.put]) (AVh _ _ _) ?_)
 go_wp2_with (at_builtin;refine wpList_copy_runI _ rfl _ _ (ρ.t 24) (ρ.t 24) rfl _ _ rfl rfl (AaH _ (fun _=>rfl) (fun _=>rfl) rfl _ _) ?_)
 go_ret
 first|exact⟨rfl,_,rfl,⟨rfl,rfl,rfl,AQW _⟩,rfl⟩|exact⟨rfl,w.drew,rfl,⟨rfl,rfl,rfl,AQW _⟩,by first|rfl|rw[hW1]⟩
set_option maxHeartbeats 4000000 in
set_option maxRecDepth 100000 in
theorem AEY(L:dh P ρ nm fv){i0:TypeInfo}(vV:P.info? (ρ.t 9)=some i0)(b off n c:Nat)(va:Addr)(m vc:Nat)(vs:List Value)(w:World)(hm:0<m)(Sk:n+m≤c)
  (pQ:w.there b (off+n*i0.size) vs.length) (hn:kR P w i0.size m (.slice (some va) m vc) vs) (h1v:∀v∈vs,v.oneCell' =true):
  Calls P (ρ.f 22) #[.slice (some ⟨b,off,none⟩) n c,.int .i64 n,.slice (some va) m vc] w fun e w' =>
   e= .returned (.slice (some ⟨b,off,none⟩) (n+m) c)∧w' =w.setCells b (off+n*i0.size) vs:=by
 have t0:=L.t0;have a0:=L.a0;have z0:=L.z0;have v0:=L.v0;have t3:=L.t3;have a3:=L.a3;have z3:=L.z3;have v3:=L.v3;have t4:=L.t4;have a4:=L.a4;have z4:=L.z4;have v4:=L.v4;have t24:=L.t24;have a24:=L.a24;have z24:=L.z24;have v24:=L.v24;have u0:=run_underlying L.t0;have u3:=run_underlying L.t3;have u4:=run_underlying L.t4;have Xj:=run_underlying L.t24;have z9:∀w,(Go.sizeOf (ρ.t 9)).run P w= .ok i0.size w:=fun w=>by simp[sizeOf,typeInfo,vV]
 have mixed:=L.mixed;have hz1: ¬((m:Int)=0):=by omega
 have iN:∀ty,(Builtin.append_ #[(ρ.t 24),(ρ.t 24)] ty #[.slice (some ⟨b,off,none⟩) n c,.slice (some va) m vc]).run P w=_:=fun ty=>
  fT (ts:= #[(ρ.t 24),(ρ.t 24)]) (ty:=ty) rfl rfl L.t24 (.inl ⟨_,L.t24⟩) vV rfl hn Sk pQ h1v
 clear pQ hn
 generalize hk:i0.size=k at*
 obtain⟨vab,vao,vas⟩:=va
 go_enter L.f22,Body2.n22_ntmps ρ
 go_wp2_with (at_builtin;refine Lib.wpList_append_run _ rfl _ _ (ρ.t 24) (ρ.t 24) rfl _ _ rfl rfl _ _ (iN _) ?_)
 go_ret
 exact⟨rfl,rfl⟩
set_option maxHeartbeats 4000000 in
set_option maxRecDepth 100000 in
theorem AE_(L:dh P ρ nm fv){i0:TypeInfo}{z:Value}(vV:P.info? (ρ.t 9)=some i0)(hz:i0.zero=some z)(hby:i0.bytes≤512)(ad:Option Addr)(n c:Nat)(va:Addr)(m vc:Nat)(cs vs:List Value)(w:World)(hm:0<m)(hnc:n≤c)(Sk:c<n+m)(Zk:n+m≤Dr)
  (ho:∀w',w'.heap=w.heap→(Builtin.firstCells i0.size n (.slice ad n c)).run P w' = .ok cs.toArray w') (hn:kR P w i0.size m (.slice (some va) m vc) vs):
  Calls P (ρ.f 22) #[.slice ad n c,.int .i64 n,.slice (some va) m vc] w fun e w' =>
   e= .returned (.slice (some ⟨w.heap.size,0,none⟩) (n+m) (grownCap w (n+m) c (ρ.t 9)))∧
   w' =w.drew.alloc (.cells (cs.toArray++vs.toArray++Builtin.zeroCells z.cells (grownCap w (n+m) c (ρ.t 9)-(n+m))) (ρ.t 9)):=by
 have t0:=L.t0;have a0:=L.a0;have z0:=L.z0;have v0:=L.v0;have t3:=L.t3;have a3:=L.a3;have z3:=L.z3;have v3:=L.v3;have t4:=L.t4;have a4:=L.a4;have z4:=L.z4;have v4:=L.v4;have t24:=L.t24;have a24:=L.a24;have z24:=L.z24;have v24:=L.v24;have u0:=run_underlying L.t0;have u3:=run_underlying L.t3;have u4:=run_underlying L.t4;have Xj:=run_underlying L.t24;have z9:∀w,(Go.sizeOf (ρ.t 9)).run P w= .ok i0.size w:=fun w=>by simp[sizeOf,typeInfo,vV]
 have mixed:=L.mixed;have hz1: ¬((m:Int)=0):=by omega
 have iN:∀ty,(Builtin.append_ #[(ρ.t 24),(ρ.t 24)] ty #[.slice ad n c,.slice (some va) m vc]).run P w=_:=fun ty=>
  bo (ts:= #[(ρ.t 24),(ρ.t 24)]) (ty:=ty) rfl rfl L.t24 (.inl ⟨_,L.t24⟩) vV hz rfl ho hn Sk Zk hby
 clear hn ho
 obtain⟨W1,hW1⟩:∃W1,W1=w.drew.alloc (.cells (cs.toArray++vs.toArray++Builtin.zeroCells z.cells (grownCap w (n+m) c (ρ.t 9)-(n+m))) (ρ.t 9)):=⟨_,rfl⟩;rw[←hW1]at iN⊢;clear hW1
 generalize hk:i0.size=k at*
 obtain⟨vab,vao,vas⟩:=va
 go_enter L.f22,Body2.n22_ntmps ρ
 cases ad with
 |none=>
  go_wp2_with (at_builtin;refine Lib.wpList_append_run _ rfl _ _ (ρ.t 24) (ρ.t 24) rfl _ _ rfl rfl _ _ (iN _) ?_)
  all_goals (go_ret;exact⟨rfl,rfl⟩)
 |some a=>
  obtain⟨ab,ao,asp⟩:=a
  go_wp2_with (at_builtin;refine Lib.wpList_append_run _ rfl _ _ (ρ.t 24) (ρ.t 24) rfl _ _ rfl rfl _ _ (iN _) ?_)
  all_goals (go_ret;exact⟨rfl,rfl⟩)
set_option maxHeartbeats 4000000 in
set_option maxRecDepth 100000 in
theorem AKk(L:dh P ρ nm fv){i0:TypeInfo}{z:Value}(vV:P.info? (ρ.t 9)=some i0)(hz:i0.zero=some z)(hzl:z.cells.size=i0.size)(hs0:0<i0.size)(hby:i0.bytes≤512)(b off n c i:Nat)(va:Addr)(m vc:Nat)(cs vs:List Value)(w:World)(hi:i<n)(hm:0<m)(hnc:n≤c)(Sk:c<n+m)(Zk:n+m≤Dr)
  (cO:cs.length=n*i0.size) (hvl:vs.length=m*i0.size) (hbw:b<w.heap.size) (wi:Bc w b off cs) (hvw:va.block<w.heap.size)
  (VC:∀W:World,W.heap[va.block]? =w.heap[va.block]?→(Builtin.firstCells i0.size m (.slice (some va) m vc)).run P W= .ok vs.toArray W) (h1c:∀v∈cs,v.oneCell' =true) (h1v:∀v∈vs,v.oneCell' =true):
  Calls P (ρ.f 22) #[.slice (some ⟨b,off,none⟩) n c,.int .i64 i,.slice (some va) m vc] w fun e w' =>
   e= .returned (.slice (some ⟨w.heap.size,0,none⟩) (n+m) (grownCap w (n+m) c (ρ.t 9)))∧
   ∃W:World,W.heap=w.heap.push (.cells ((cs.take (i*i0.size)).toArray++Builtin.zeroCells z.cells (n+m-i)++Builtin.zeroCells z.cells (grownCap w (n+m) c (ρ.t 9)-(n+m))) (ρ.t 9))∧W.os=w.os∧W.tape=w.tape∧W.output=w.output∧
    w' =(W.setCells w.heap.size (i*i0.size) vs).setCells w.heap.size ((i+m)*i0.size) (cs.drop (i*i0.size)):=by
 have t0:=L.t0;have a0:=L.a0;have z0:=L.z0;have v0:=L.v0;have t3:=L.t3;have a3:=L.a3;have z3:=L.z3;have v3:=L.v3;have t4:=L.t4;have a4:=L.a4;have z4:=L.z4;have v4:=L.v4;have t24:=L.t24;have a24:=L.a24;have z24:=L.z24;have v24:=L.v24;have u0:=run_underlying L.t0;have u3:=run_underlying L.t3;have u4:=run_underlying L.t4;have Xj:=run_underlying L.t24;have z9:∀w,(Go.sizeOf (ρ.t 9)).run P w= .ok i0.size w:=fun w=>by simp[sizeOf,typeInfo,vV]
 have mixed:=L.mixed;have AFA:=Zk;simp only[Dr]at AFA;have hz1: ¬((m:Int)=0):=by omega
 have hz2: ¬((i:Int)=(n:Int)):=by omega
 have hz3:(c:Int)<(n:Int)+(m:Int):=by omega
 have hkk:(n:Int)+(m:Int)-(i:Int)=((n+m-i:Nat):Int):=by omega
 have hik:i+(n+m-i)=n+m:=by omega
 have AFx:i*i0.size≤n*i0.size:=AOr _ (by omega);have tP:(n+m)*i0.size=n*i0.size+m*i0.size:=ATn ..;have him:(i+m)*i0.size=i*i0.size+m*i0.size:=ATn ..;have hni:(n-i)*i0.size=n*i0.size-i*i0.size:=AWR ..;have hold:(Builtin.firstCells i0.size i (.slice (some ⟨b,off,none⟩) i c)).run P w.drew= .ok (cs.take (i*i0.size)).toArray w.drew:=by
  simp only[Builtin.firstCells];have hl:(cs.take (i*i0.size)).length=i*i0.size:=by rw[AWg];omega
  have hca:Bc w.drew b off (cs.take (i*i0.size)):=fun j v hj=>by
   rw[AWn]at hj;split at hj
   ·exact wi j v hj
   ·cases hj
  conv=>lhs;rw[←hl]
  exact LL hca
 have AWx:(n+m)*i0.bytes≤140737488355328:=by
  have:(n+m)*i0.bytes≤Dr*512:=AXg Zk hby;simp only[Dr]at this;omega
 have ALz:(n+m-i)*i0.bytes≤281474976710656:=by
  have:(n+m-i)*i0.bytes≤(n+m)*i0.bytes:=AOr _ (by omega);omega
 have hrz:∀ty,(Builtin.append_ #[(ρ.t 24),(ρ.t 3)] ty #[.slice (some ⟨b,off,none⟩) i c,.int .i64 ((n:Int)+(m:Int)-(i:Int))]).run P w=
   .ok (.slice (some ⟨w.heap.size,0,none⟩) (n+m) (grownCap w (n+m) c (ρ.t 9))) (w.drew.alloc (.cells ((cs.take (i*i0.size)).toArray++Builtin.zeroCells z.cells (n+m-i)++Builtin.zeroCells z.cells (grownCap w (n+m) c (ρ.t 9)-(n+m))) (ρ.t 9))):=fun ty=>by
  have h:=Lib.run_append_grow_zeros w (ρ.t 24) (ρ.t 3) ty (ρ.t 9) i0 z .i64 .i64 L.t24 L.t3 vV hz (some ⟨b,off,none⟩) i c (cs.take (i*i0.size)) hold (n+m-i) (by omega) hs0 (by omega) (by omega) ALz (by rw[hik];exact growslice_fits Sk AWx);rw[hik]at h;rw[hkk];exact h
 have hGn:n+m≤grownCap w (n+m) c (ρ.t 9):=grownCap_ge w _ _ _;have Aaq:grownCap w (n+m) c (ρ.t 9)≤9223372036854775807:=by
  have:=grownCap_le_maxLen w (n+m) c (ρ.t 9) (by unfold maxLen;omega);unfold maxLen at this;omega
 obtain⟨G,hG⟩:∃G,G=grownCap w (n+m) c (ρ.t 9):=⟨_,rfl⟩;rw[←hG]at hrz hGn Aaq⊢;obtain⟨ROW,ABb⟩:∃ROW:Array Value,ROW=(cs.take (i*i0.size)).toArray++Builtin.zeroCells z.cells (n+m-i)++Builtin.zeroCells z.cells (G-(n+m)):=⟨_,rfl⟩;rw[←ABb]at hrz⊢;have hRl:(n+m)*i0.size≤ROW.size:=by
  rw[ABb];simp only[AXO,AXP,size_zeroCells,hzl,AWg];have e1:(n+m-i)*i0.size=(n+m)*i0.size-i*i0.size:=AWR ..;omega
 obtain⟨W1,hW1⟩:∃W1,W1=w.drew.alloc (.cells ROW (ρ.t 9)):=⟨_,rfl⟩;rw[←hW1]at hrz;have AT3:W1.heap[w.heap.size]? =some (.cells ROW (ρ.t 9)):=by
  rw[hW1]
  show(w.heap.push (.cells ROW (ρ.t 9)))[w.heap.size]? =_
  simp
 have ADx:∀x,x<w.heap.size→W1.heap[x]? =w.heap[x]?:=fun x hx=>by rw[hW1];exact Ih hx
 have hN:∀o l,o+l≤(n+m)*i0.size→W1.there w.heap.size o l:=fun o l h=>US (k:=1) AT3 (by omega) (WM _)
 have hdl:(cs.drop (i*i0.size)).length=(n-i)*i0.size:=by rw[AWf,cO,hni]
 have AbO:∀(W:World),(∀x,W.cell? x=W1.cell? x)→(∀x,W.frozen? x=W1.frozen? x)→W.heap=W1.heap→ ∀ty dc,(Builtin.copy_ #[(ρ.t 24),(ρ.t 24)] ty #[.slice (some ⟨w.heap.size,i*i0.size,none⟩) (n+m-i) dc,.slice (some va) m vc]).run P W= .ok (goInt m) (W.setCells w.heap.size (i*i0.size) vs):=fun W hWc hWf si ty dc=>
  bQ (n:=m) L.t24 vV (by simp only[Nat.min_def];split<;>omega) (fun V hV=>by subst hV;exact VC _ (by rw[si];exact ADx _ hvw)) (fun j hj=>by
   have:=hN (i*i0.size) (m*i0.size) (by omega) j (by omega);exact⟨by rw[hWc];exact this.1,by rw[hWf];exact this.2⟩) h1v
 have AUt:∀(W:World),(∀x,W.cell? x=(W1.setCells w.heap.size (i*i0.size) vs).cell? x)→(∀x,W.frozen? x=(W1.setCells w.heap.size (i*i0.size) vs).frozen? x)→W.heap=(W1.setCells w.heap.size (i*i0.size) vs).heap→ ∀ty dc sc,(Builtin.copy_ #[(ρ.t 24),(ρ.t 24)] ty #[.slice (some ⟨w.heap.size,(i+m)*i0.size,none⟩) (n+m-(i+m)) dc,.slice (some ⟨b,off+i*i0.size,none⟩) (n-i) sc]).run P W= .ok (goInt (n-i:Nat)) (W.setCells w.heap.size ((i+m)*i0.size) (cs.drop (i*i0.size))):=fun W hWc hWf si ty dc sc=>
  bQ (n:=n-i) L.t24 vV (by simp only[Nat.min_def];split<;>omega) (fun V hV=>by
   subst hV;simp only[Builtin.firstCells];rw[←hdl];refine LL fun j v hj=> ?_
   rw[AWm]at hj;have h3:=wi _ v hj;rw[←AT8]at h3;rw[←h3];refine World.cell?_of_block (a:=⟨b,off+i*i0.size+j,none⟩) ?_
   rw[si,DP _ _ _ _ _ (show b≠w.heap.size by omega)];exact ADx b hbw) (fun j hj=>by
   have hb:W1.there w.heap.size ((i+m)*i0.size) (cs.drop (i*i0.size)).length:=hN _ _ (by omega);refine⟨?_,?_⟩
   ·rw[hWc]
    exact isSome_setCells _ _ _ _ (fun t ht=>(hN (i*i0.size) vs.length (by omega) t ht).1) _ (hb j hj).1
   ·rw[hWf,World.frozen?_setCells]
    exact(hb j hj).2) (fun v hv=>h1c v (AVs hv))
 generalize hk:i0.size=k at*
 have hE1:∀x,((w.alloc (.cells ROW (ρ.t 9))).drew).cell? x=W1.cell? x:=fun x=>by rw[hW1];rfl
 have hE2:∀x,((w.alloc (.cells ROW (ρ.t 9))).drew).frozen? x=W1.frozen? x:=fun x=>by rw[hW1];rfl
 have hE3:((w.alloc (.cells ROW (ρ.t 9))).drew).heap=W1.heap:=by rw[hW1];rfl
 have hF1:∀x,(((w.alloc (.cells ROW (ρ.t 9))).drew.setCells w.heap.size (i*k) vs).drew).cell? x=(W1.setCells w.heap.size (i*k) vs).cell? x:=fun x=>by rw[hW1];rfl
 have hF2:∀x,(((w.alloc (.cells ROW (ρ.t 9))).drew.setCells w.heap.size (i*k) vs).drew).frozen? x=(W1.setCells w.heap.size (i*k) vs).frozen? x:=fun x=>by rw[hW1];rfl
 have hF3:(((w.alloc (.cells ROW (ρ.t 9))).drew.setCells w.heap.size (i*k) vs).drew).heap=(W1.setCells w.heap.size (i*k) vs).heap:=by rw[hW1];rfl
 have hw1:IntKind.i64.wrap ((i:Int)+(m:Int))=(i:Int)+(m:Int):=by rw[IntKind.wrap_i64];omega
 have hb1:(0:Int)≤(i:Int)+(m:Int):=by omega
 have PY:i≤n:=by omega
 have htn:((i:Int)+(m:Int)).toNat=i+m:=by omega
 have hb3:(i:Int)≤(n:Int):=by omega
 have hGi: ¬(G=i):=by omega
 have AeK: ¬(G=i+m):=by omega
 have hci: ¬(c=i):=by omega
 subst hW1;clear hkk hik hold ABb hG hRl AFx tP him hni hdl hN wi VC AT3 ADx AWx ALz;obtain⟨vab,vao,vas⟩:=va
 go_enter L.f22,Body2.n22_ntmps ρ
 go_wp2_with (first
  |(at_builtin;refine Lib.wpList_append_run _ rfl _ _ _ _ rfl _ _ rfl rfl _ _ (hrz _) ?_)
  |(at_builtin;refine wpList_copy_runI _ rfl _ _ (ρ.t 24) (ρ.t 24) rfl _ _ rfl rfl (AbO _ hE1 hE2 hE3 _ _) ?_)
  |(at_builtin;refine wpList_copy_runI _ rfl _ _ (ρ.t 24) (ρ.t 24) rfl _ _ rfl rfl (AUt _ (fun _=>rfl) (fun _=>rfl) rfl _ _ _) ?_))
 go_region_law_o (refine step_copy_runI rfl _ _ (ρ.t 24) (ρ.t 24) rfl (.slice (some ⟨w.heap.size,(i+m)*k,none⟩) (n+m-(i+m)) (G-(i+m))) (.slice (some ⟨b,off+i*k,none⟩) (n-i) (c-i)) (by simp[Act.eval,Act.put]) (by simp[Act.eval,Act.put]) (AUt _ hF1 hF2 hF3 (ρ.t 3) (G-(i+m)) (c-i)) ?_)
 go_wp2
 go_ret
 refine⟨rfl,((w.alloc (.cells ROW (ρ.t 9))).drew).drew,rfl,rfl,rfl,rfl,?_⟩;rw[drew_setCells]
end
end Go.Fw
end
section
namespace Go.Fw
open Go.Proofs Go.Shelf Go.RowKit Go.Lib
def Flat(w:World)(r:Ty)(css:List (List Value))(rows:List r.D):Prop:=
 css.length=rows.length∧(∀c∈css,c.length=r.n)∧ ∀(i:Nat) cs y,css[i]? =some cs→rows[i]? =some y→Rd w (fun _=>False) r cs y
theorem Flat.to{w w':World}{r:Ty}(hf:r.flat=true){css:List (List Value)}{rows:List r.D}(h:Flat w r css rows):Flat w' r css rows:=
 ⟨h.1,h.2.1,fun i cs y a b=>eH hf (h.2.2 i cs y a b)⟩
theorem Flat.take{w:World}{r:Ty}{css:List (List Value)}{rows:List r.D}(h:Flat w r css rows)(n:Nat):Flat w r (css.take n) (rows.take n):=by
 refine⟨by simp[h.1],fun c hc=>h.2.1 c (AXF hc),fun i cs y a b=> ?_⟩;rw[AWn]at a b;split at a
 ·rename_i hi
  rw[ALy hi]at b;exact h.2.2 i cs y a b
 simp_all
theorem Flat.drop{w:World}{r:Ty}{css:List (List Value)}{rows:List r.D}(h:Flat w r css rows)(n:Nat):Flat w r (css.drop n) (rows.drop n):=by
 refine⟨by simp[h.1],fun c hc=>h.2.1 c (AVs hc),fun i cs y a b=> ?_⟩;rw[AWm]at a b;exact h.2.2 _ cs y a b
theorem Flat.append{w:World}{r:Ty}{css rr:List (List Value)}{rows ATd:List r.D}(h:Flat w r css rows)(k:Flat w r rr ATd):Flat w r (css++rr) (rows++ATd):=by
 refine⟨by simp[h.1,k.1],fun c hc=>(AOs.1 hc).elim (h.2.1 c) (k.2.1 c),fun i cs y a b=> ?_⟩;by_cases hi:i<rows.length
 ·rw[ANd (by rw[h.1];omega)]at a
  rw[ANd hi]at b;exact h.2.2 i cs y a b
 ·rw[ANr (by rw[h.1];omega)]at a
  rw[ANr (by omega)]at b;rw[h.1]at a;exact k.2.2 _ cs y a b
theorem Flat.one{w:World}{r:Ty}(hf:r.flat=true){css:List (List Value)}{rows:List r.D}(h:Flat w r css rows):∀v∈css.flatten,v.oneCell' =true:=by
 intro v hv;obtain⟨c,hc,hv⟩:=ASw.1 hv;obtain⟨i,hi,rfl⟩:=AQa hc;have h1:=h.1;exact j6 (iC (S:=fun _=>False) (d:=0) hf (h.2.2 i _ _ (AL5 hi) (AL5 (by omega)))) v hv
theorem Flat.at{w:World}{S:Nat→Prop}{d:Nat}{r:Ty}(hf:r.flat=true){css:List (List Value)}{rows:List r.D}(h:Flat w r css rows):FK w S d r css rows (List.replicate rows.length []):=FK.flat hf h.1 h.2.1 h.2.2
theorem AKf{w:World}{S:Nat→Prop}{r:Ty}(hf:r.flat=true){css:List (List Value)}{rows:List r.D}{Fs:List AA4}{d:Nat}(h:FK w S d r css rows Fs):Flat w r css rows:=by
 refine⟨h.1,h.2.2.1,fun i cs y a b=> ?_⟩;have hi:=(AMK.1 b).1;have h2:=h.2.1;exact eH hf (Wo (h.2.2.2 i cs y (Fs[i]'(by omega)) a b (AL5 _)))
theorem Flat.sO{w:World}{r:Ty}{css:List (List Value)}{rows:List r.D}(h:Flat w r css rows)(n:Nat)(hn:n≤rows.length):css.flatten.take (n*r.n)=(css.take n).flatten:=by
 have h1:((css.take n).flatten).length=n*r.n:=by
  rw[He (n:=r.n) (fun c hc=>h.2.1 c (AXF hc)),AWg,h.1,Nat.min_eq_left hn]
 grind[List.take_append_drop,List.flatten_append,List.take_of_length_le]
theorem Flat.so{w:World}{r:Ty}{css:List (List Value)}{rows:List r.D}(h:Flat w r css rows)(n:Nat)(hn:n≤rows.length):css.flatten.drop (n*r.n)=(css.drop n).flatten:=by
 have h1:((css.take n).flatten).length=n*r.n:=by
  rw[He (n:=r.n) (fun c hc=>h.2.1 c (AXF hc)),AWg,h.1,Nat.min_eq_left hn]
 grind[List.take_append_drop,List.flatten_append,List.drop_eq_nil_of_le]
theorem jM{w:World}{S:Nat→Prop}{d b o cap:Nat}{r:Ty}{rows:List r.D}{css:List (List Value)}{Fs:List AA4}{arr:Array Value}{ty:TypeId}{fr:AC7}(h:FK w S d r css rows Fs)(hb:w.heap[b]? =some (.cells arr ty fr))
  (hc:Bc w b o css.flatten) (zT:rows.length≤cap) (PC:o+cap*r.n≤arr.size) (hu:vy fr (arr.size+mk r)):Ow w S (d+1) (.sl r) [.slice (some ⟨b,o,none⟩) rows.length cap] rows (b::Fs.flatten):=by
 simp only[Ow];refine⟨_,cap,rfl,zT,.inr ⟨b,o,arr,ty,fr,Fs,rfl,hb,PC,hu,rfl,h.2.1,fun j q G hq hG=> ?_⟩⟩;have hj:=(AMK.1 hq).1;have h1:=h.1;have qu:j<css.length:=by omega
 refine⟨css[j],h.2.2.1 _ (AMh _),fun x u hx=> ?_,h.2.2.2 j _ _ _ (AL5 qu) hq hG⟩;have hxl:=(AMK.1 hx).1;rw[h.2.2.1 _ (AMh _)]at hxl;have:=Xy (n:=r.n) (css:=css) (ex:=[]) (i:=j) h.2.2.1 (AL5 qu) hxl;rw[AM5,hx]at this;have:=hc _ _ this;grind
theorem l6{w:World}{b o:Nat}{A V B:List Value}{arr:Array Value}{ty:TypeId}{fr:AC7}(hb:w.heap[b]? =some (.cells arr ty fr))(hs:o+(A.length+V.length)+B.length≤arr.size)(hA:Bc w b o A):
  ∃KI,((w.setCells b (o+(A.length+V.length)) B).setCells b (o+A.length) V).heap[b]? =some (.cells KI ty fr)∧KI.size=arr.size∧Bc ((w.setCells b (o+(A.length+V.length)) B).setCells b (o+A.length) V) b o (A++V++B):=by
 have h1:=FY B (o+(A.length+V.length)) w b arr ty fr hb;have z1:(FE arr (o+(A.length+V.length)) B).size=arr.size:=Fa ..;have h2:=FY V (o+A.length) _ b _ ty fr h1;grind[ON,Fa,Bc.append,T2,List.length_append]
theorem jJ{w:World}{b o:Nat}{A V B:List Value}{arr:Array Value}{ty:TypeId}{fr:AC7}(hb:w.heap[b]? =some (.cells arr ty fr))(hs:o+(A.length+V.length)+B.length≤arr.size)(hA:Bc w b o A):
  ∃KI,((w.setCells b (o+A.length) V).setCells b (o+(A.length+V.length)) B).heap[b]? =some (.cells KI ty fr)∧KI.size=arr.size∧Bc ((w.setCells b (o+A.length) V).setCells b (o+(A.length+V.length)) B) b o (A++V++B):=by
 have h1:=FY V (o+A.length) w b arr ty fr hb;have z1:(FE arr (o+A.length) V).size=arr.size:=Fa ..;have h2:=FY B (o+(A.length+V.length)) _ b _ ty fr h1;grind[ON,Fa,Bc.append,T2,List.length_append]
@[reducible] def sd (r:Ty):Ba:=⟨[(0,.c (.ref 0)),(1,.c (.v (.int .i64))),(2,.c (.sl false r))],[.sl 1 r]⟩
@[reducible] def zd (r:Ty):Ba:=⟨[(0,.c (.ref 1))],[.gone,.sl 1 r]⟩
theorem AAq{P:Program}{f:Nat}{args:Array Value}{E:Env}{w:World}{r:Ty}{d:Nat}(hd:1≤d){F:AA4}(hS:Sep E w F){l:List r.D}{Q:Ending→World→Prop}
  (h:Calls P f args w Q) (hq:∀e w',Q e w'→ ∃v F',e= .returned v∧isSlice v=true∧Ow w' E.S d (.sl r) [v] l F'∧F'.Nodup∧(∀c∈F',¬E.T c∧c<w'.heap.size)∧(∀c,E.T c→w'.heap[c]? =w.heap[c]?)∧Grown w w'):
  Calls P f args w fun e w' => ∃x E',e= .returned x∧ck E w E' w'∧C9 E' w' [.dead,.sl d r l] [.dead,.sl d r l] []∧
   OW E' w' [.dead,.sl d r l] id [(0,.c (.ref 1))] ((),()) [x]∧ ∀i,i<1→alive [.gone,.sl d r] i=true→E'.Hk i=E.Hk i∧E'.Hl i=E.Hl i:=by
 refine h.mono fun e w' hh=> ?_
 obtain⟨v,F',rfl,hv,ho,nd,hfr,hT,hg⟩:=hq e w' hh
 let E':Env:={ E with Hl:=fun n=>if n=1 then v else E.Hl n }
 refine⟨v,E',rfl,⟨fun _ h=>h,fun _ h=>h,fun _ h=> .inl h,fun _ h=> .inl h,hT,hg.os,hg.tape,hg.output,hg.size⟩,⟨[[],F'],⟨rfl,fun k B F hB hF=> ?_⟩,?_⟩,?_,fun i hi ha=> ?_⟩
 ·match k with
  |0=>
   simp at hB hF;subst hB hF;rfl
  |1=>
   simp at hB hF;subst hB hF;exact⟨hd,ho⟩
  |k+2=>simp_all
 ·refine⟨by simp_all,fun c hc=>(hfr c (by simp_all)).1,fun c hc=>(hfr c (by simp_all)).2,hS.st,fun c hc=>ATB (hS.cS c hc) hg.size⟩
 ·refine⟨⟨v,rfl,?_⟩,trivial⟩
  refine⟨hv,?_⟩
  show DA r l []∧(∃q,Gy r l []=some q)∧Ij w' (E'.Hl 1) []=some v
  refine⟨trivial,⟨_,rfl⟩,?_⟩;rfl
 grind
end Go.Fw
end
section
namespace Go.Fw
open Go.M Go.Proofs Go.Shelf Go.RowKit Go.Lib
theorem xT{w:World}{b:Nat}{arr:Array Value}{ty:TypeId}{fr:AC7}(h:w.heap[b]? =some (.cells arr ty fr)):w.shape? b=some (ty,arr.size):=by
 simp[World.shape?,h]
theorem AER{w:World}{b o:Nat}{v:Value}(h:w.cell? ⟨b,o,none⟩=some v):∃arr ty fr,w.heap[b]? =some (.cells arr ty fr)∧o<arr.size:=by
 unfold World.cell? at h;grind
theorem Grown.trans'{w w' w'':World}(h:Grown w w')(k:Grown w' w''):Grown w w'':=⟨k.os.trans h.os,k.tape.trans h.tape,k.output.trans h.output,ASs h.size k.size⟩
theorem uf{P:Program}{T:JY}{ρ:Ren}{nm:String}{fv:Func}(hT:Eo P T)(L:dh P ρ nm fv){r:Ty}(T7:T.M6 (ρ.t 24) r=true)(hf:r.flat=true)(ZL:mk r=1)(hn0:0<r.n):
  Xe P (ρ.f 22) ⟨sd r,zd r,fun v=>(vY v.1.2.1 v.1.2.2.1 v.2.1).map fun l=>(((),()),((),l,()))⟩:=by
 refine⟨by simp[QU.ok,kinds,lU,AP.LS,XP.LS,BP.LS],XS L.f22 L.n22 (by kernel_rfl),?_⟩;intro E w v args u ATv hB hS hg;obtain⟨⟨u0,p,vs,u1⟩,rows,u2⟩:=v;obtain⟨⟨⟨⟩,⟨⟩⟩,⟨⟩,l,⟨⟩⟩:=u;simp only[AMI]at hg;obtain⟨l',iS,hg⟩:=hg;simp only[APv,true_and,ATG]at hg;subst hg;unfold vY at iS;split at iS
 case isFalse=>cases iS
 rename_i hc;obtain⟨hp0,hp1,Zk⟩:=hc;obtain⟨p,rfl⟩:=AXM hp0;simp only[AMV,AMF]at iS;have hpn:p≤rows.length:=by omega
 obtain⟨⟨a0,h0,x0⟩,⟨a1,h1,x1⟩,⟨a2,h2,x2⟩,_⟩:=hS;have H_:args= #[a0,a1,a2]:=by
  have hl3:args.toList.length=3:=ATv;apply Array.ext'
  match hq:args.toList,hl3 with
  |[b0,b1,b2],_=>
   rw[hq]at h0 h1 h2;simp at h0 h1 h2;simp[h0,h1,h2]
 subst H_;have e0:E.Hl 0=a0:=by
  have:VR E w [Bx.sl 1 r rows] (.ref 0 []) a0:=x0;simp only[VR]at this;obtain⟨_,_,_,h⟩:=this;rw[C8]at h;exact Option.some.inj h
 have e1:a1= .int .i64 (p:Int):=by
  have:VR E w [Bx.sl 1 r rows] (.v (.int .i64) (p:Int)) a1:=x1;simp only[VR,Rd,AQj,ATG]at this;exact this.2
 have e2:Rd w E.T (.sl r) [a2] vs:=by
  have:VR E w [Bx.sl 1 r rows] (.sl false r vs) a2:=x2;simp only[VR]at this;simpa using this
 subst e1;obtain⟨Fs,⟨hFl,hFb⟩,hSep⟩:=hB;obtain⟨F,rfl⟩:∃F,Fs=[F]:=by
  match Fs,hFl with
  |[F],_=>exact⟨F,rfl⟩
 have ADV:=hFb 0 (.sl 1 r rows) F rfl rfl;obtain⟨_,ho⟩:=ADV;rw[e0]at ho;simp only[AUJ,AWd,AM5]at hSep;have ho0:=ho;obtain⟨ad,cap,css,Fs1,R1,rfl,hle,hd,hp1',hcase⟩:=nW ho;have xP:=AKf hf hd;obtain⟨e,ti,hut,Um,hs1,hby,hrow⟩:=J6 hT T7;obtain⟨i0,z,i1,i2,i3,i4,i5,mA⟩:=WQ hT Um hrow;have he:e=ρ.t 9:=by
  have:=L.t24.symm.trans hut;simp at this;exact this.symm
 subst he;rw[hs1]at i2;have z9:∀w,(Go.sizeOf (ρ.t 9)).run P w= .ok r.n w:=fun w=>by simp[sizeOf,typeInfo,i1,i2]
 have hzl:z.cells.size=r.n:=by rw[←AWN,i5,Gp]
 have e2':=e2;simp only[Rd]at e2;obtain⟨va,vc,Zv,hvle,hvr⟩:=e2;simp only[AQj,ATG]at Zv;subst Zv;have fin:∀{Q:Ending→World→Prop},Calls P (ρ.f 22) #[.slice ad rows.length cap,.int .i64 (p:Int),.slice va vs.length vc] w Q→
   (∀e w',Q e w'→ ∃v F',e= .returned v∧isSlice v=true∧Ow w' E.S 1 (.sl r) [v] l' F'∧F'.Nodup∧(∀c∈F',¬E.T c∧c<w'.heap.size)∧(∀c,E.T c→w'.heap[c]? =w.heap[c]?)∧Grown w w')→_:=fun h hq=>AAq (AQW 1) hSep h hq
 have mK:∀n:Nat,(List.replicate n ([]:AA4)).flatten=[]:=fun n=>by simp
 by_cases hm0:vs.length=0
 ·
  have AaM:vs=[]:=AQO hm0;subst AaM;have hl:rows=l':=by rw[←iS,AM5,List.take_append_drop]
  subst hl;refine fin (AF4 (k:=r.n) L z9 ad rows.length cap p va vc w hpn hle) fun e w' h=> ?_
  obtain⟨rfl,rfl⟩:=h;exact⟨_,F,rfl,rfl,ho0,hSep.nodup,fun c hc=>⟨hSep.free c hc,hSep.lt c hc⟩,fun _ _=>rfl,⟨rfl,rfl,rfl,AQW _⟩⟩
 have hm:0<vs.length:=by omega
 rcases hvr with hvr|⟨vb,vo,rfl,hvT,hvr⟩
 ·exact absurd hvr hm0
 obtain⟨rr,c1,c2,c3,c4⟩:=qm hvr;have X5:Flat w r rr vs:=⟨c1,c2,fun i cs y a b=>eH hf (c4 i cs y a b)⟩;have zi:rr.flatten.length=vs.length*r.n:=by rw[He c2,c1]
 have ym:css.flatten.length=rows.length*r.n:=by rw[He hd.2.2.1,hd.1]
 have AVy:0<rr.flatten.length:=by rw[zi];exact Nat.mul_pos hm hn0
 obtain⟨arrv,tyv,frv,hbv,hov⟩:=AER (c3 0 _ (AL5 AVy));have AbK:vb<w.heap.size:=by
  by_cases hh:vb<w.heap.size
  ·exact hh
  ·rw[Array.getElem?_eq_none (by omega)]at hbv;cases hbv
 have l9:kR P w r.n vs.length (.slice (some ⟨vb,vo,none⟩) vs.length vc) rr.flatten:=QM c1 c2 (.inr ⟨vb,vo,rfl,c3⟩);have AUC:∀W:World,W.heap[vb]? =w.heap[vb]?→(Builtin.firstCells r.n vs.length (.slice (some ⟨vb,vo,none⟩) vs.length vc)).run P W= .ok rr.flatten.toArray W:=fun W hW=>by
  simp only[Builtin.firstCells];rw[←zi];exact LL (c3.of_block hW)
 have AL4:=xP.one hf;have AFg:=X5.one hf;by_cases Sk:rows.length+vs.length≤cap
 ·rcases hcase with⟨h0,_⟩|⟨b,o,arr,ty,fr,rfl,hb,PC,hu,rfl,rb⟩
  ·omega
  have hbT: ¬E.T b:=hSep.free b (by simp);have AFF:b<w.heap.size:=hSep.lt b (by simp);have cF:vb≠b:=fun e=>hbT (e▸hvT)
  have Ac_:(rows.length+vs.length)*r.n≤cap*r.n:=AOr _ Sk;have tP:(rows.length+vs.length)*r.n=rows.length*r.n+vs.length*r.n:=ATn ..;by_cases hpe:p=rows.length
  ·subst hpe
   have hl:rows++vs=l':=by rw[←iS,List.take_length,AUB,AM5]
   subst hl;have jX:=AEY (ρ:=ρ) L (i0:=i0) i1 b o rows.length cap ⟨vb,vo,none⟩ vs.length vc rr.flatten w hm Sk (by rw[i2];exact US (k:=mk r) hb (by omega) hu) (by rw[i2];exact l9) AFg;refine fin jX fun e w' h=> ?_
   obtain⟨rfl,rfl⟩:=h;obtain⟨KI,q1,q2,q3⟩:=l6 (B:=[]) (V:=rr.flatten) hb (by simp only[AQZ];omega) rb;rw[ym,←i2]at q1 q3;simp only[World.setCells,AM5]at q1 q3;have xy:=(xP.append X5).to (w':=w.setCells b (o+rows.length*i0.size) rr.flatten) hf;refine⟨_,b::(List.replicate (rows++vs).length ([]:AA4)).flatten,rfl,rfl,?_,?_,?_,fun c hc=>DP _ _ _ _ _ (fun e=>hbT (e▸hc)),B_ _ _ _ _⟩
   ·have:=jM (cap:=cap) (xy.at (S:=E.S) (d:=0) hf) q1 (by rw[ATo];exact q3) (by rw[APB];exact Sk) (by rw[q2];exact PC) (by rw[q2];exact hu)
    rw[mK]at this⊢;rw[APB]at this;exact this
   ·simp
   ·intro c hc
    rw[mK]at hc;simp at hc;subst hc;exact⟨hbT,by rw[DY];exact AFF⟩
  ·have Kg:p<rows.length:=by omega
   have hpm:p*r.n≤rows.length*r.n:=AOr _ hpn;have ANb:(p+vs.length)*r.n=p*r.n+vs.length*r.n:=ATn ..;have jX:=ABL (ρ:=ρ) L (i0:=i0) i1 (by rw[i2];exact hn0) b o rows.length cap p ⟨vb,vo,none⟩ vs.length vc css.flatten rr.flatten w Kg hm Sk Zk cF (by rw[i2];exact ym) (by rw[i2];exact zi) rb
    (by rw[i2];exact US (k:=mk r) hb (by omega) hu) (by rw[i2];exact AUC) AL4 AFg tyv ty arrv.size arr.size (xT hbv) (xT hb) (by omega) (by
     have:=hu arr.size (by omega);obtain⟨lo,hi⟩:=fr;simp only[World.frozen?,hb];simp at this⊢;omega)
   refine fin jX fun e w' h=> ?_
   obtain⟨rfl,W,si,hWg,rfl⟩:=h;have hA:(css.flatten.take (p*r.n)).length=p*r.n:=by rw[AWg];omega
   have hB:(css.flatten.drop (p*r.n)).length=rows.length*r.n-p*r.n:=by rw[AWf,ym]
   have hbW:W.heap[b]? =some (.cells arr ty fr):=by rw[si];exact hb
   have hcA:Bc W b o (css.flatten.take (p*r.n)):=Bc.heap (fun j v hj=>by
    rw[AWn]at hj;split at hj
    ·exact rb j v hj
    ·cases hj) si
   obtain⟨KI,q1,q2,q3⟩:=l6 (B:=css.flatten.drop (p*r.n)) (V:=rr.flatten) hbW (by omega) hcA;rw[hA,zi,←ANb,←i2]at q1 q3
   generalize rI:(W.setCells b (o+(p+vs.length)*i0.size) (css.flatten.drop (p*i0.size))).setCells b (o+p*i0.size) rr.flatten=w' at q1 q3
   have xy:=(((xP.take p).append X5).append (xP.drop p)).to (w':=w') hf;rw[iS]at xy;have hll:l'.length=rows.length+vs.length:=by rw[←iS];simp;omega
   refine⟨_,b::(List.replicate l'.length ([]:AA4)).flatten,rfl,rfl,?_,?_,?_,fun c hc=> ?_,?_⟩
   ·have:=jM (cap:=cap) (xy.at (S:=E.S) (d:=0) hf) q1 (by
     rw[ATo,ATo,←xP.sO p hpn,←xP.so p hpn,←i2];exact q3) (by rw[hll];exact Sk) (by rw[q2];exact PC) (by rw[q2];exact hu)
    rw[mK]at this⊢;rw[hll]at this;exact this
   ·simp
   ·intro c hc
    rw[mK]at hc;simp at hc;subst hc;refine⟨hbT,?_⟩;rw[←rI,DY,DY,si];exact AFF
   ·have hcb:c≠b:=fun e=>hbT (e▸hc)
    rw[←rI,DP _ _ _ _ _ hcb,DP _ _ _ _ _ hcb,si]
   ·rw[←rI]
    exact Grown.trans' hWg (Grown.trans' (B_ _ _ _ _) (B_ _ _ _ _))
 ·have hgc:=grownCap_ge w (rows.length+vs.length) cap (ρ.t 9)
  by_cases hpe:p=rows.length
  ·subst hpe
   have hl:rows++vs=l':=by rw[←iS,List.take_length,AUB,AM5]
   subst hl;have hold:rows.length=0∨ ∃b o,ad=some ⟨b,o,none⟩∧Bc w b o css.flatten:=by
    rcases hcase with⟨h0,_⟩|⟨b,of,arr,ty0,fr,rfl,hb,PC,hunf,rfl,hc⟩
    ·exact .inl (by omega)
    ·exact .inr ⟨b,of,rfl,hc⟩
   have jX:=AE_ (ρ:=ρ) L (i0:=i0) (z:=z) i1 i4 (by omega) ad rows.length cap ⟨vb,vo,none⟩ vs.length vc css.flatten rr.flatten w hm hle (by omega) Zk (by rw[i2];exact fA hd.1 hd.2.2.1 hold) (by rw[i2];exact l9);refine fin jX fun e w' h=> ?_
   obtain⟨rfl,rfl⟩:=h
   generalize grownCap w (rows.length+vs.length) cap (ρ.t 9)=gc at hgc⊢
   generalize cR:css.flatten.toArray++rr.flatten.toArray++Builtin.zeroCells z.cells (gc-(rows.length+vs.length))=arr
   have hal:arr.toList=(css++rr).flatten++(Builtin.zeroCells z.cells (gc-(rows.length+vs.length))).toList:=by rw[←cR];simp
   have AaU:arr.size=gc*r.n:=by
    rw[←cR];simp only[AXO,AXP,ZD,hzl,zi,ym,←ATn];congr 1;omega
   have new:(w.drew.alloc (.cells arr (ρ.t 9))).heap[w.heap.size]? =some (.cells arr (ρ.t 9)):=by
    show(w.heap.push (.cells arr (ρ.t 9)))[w.heap.size]? =_
    simp
   have xy:=(xP.append X5).to (w':=w.drew.alloc (.cells arr (ρ.t 9))) hf;have hra:=xy.at (S:=E.S) (d:=0) hf;refine⟨_,w.heap.size::(List.replicate (rows++vs).length ([]:AA4)).flatten,rfl,rfl,?_,?_,?_,fun c hc=>Ih (hSep.cS c hc),⟨rfl,rfl,rfl,by show _≤(w.heap.push _).size;simp⟩⟩
   ·have:=cY (cap:=gc) new hal hra.1 (by rw[APB];exact hgc) (by omega) (WM _) hra.2.1 hra.2.2.2
    rw[mK]at this⊢;rw[APB]at this;exact this
   ·simp
   ·intro c hc
    rw[mK]at hc;simp at hc;subst hc;exact⟨fun x_=>Nat.lt_irrefl _ (hSep.cS _ x_),by show _<(w.heap.push _).size;simp⟩
  ·have Kg:p<rows.length:=by omega
   have hpm:p*r.n≤rows.length*r.n:=AOr _ hpn;have ANb:(p+vs.length)*r.n=p*r.n+vs.length*r.n:=ATn ..;have tP:(rows.length+vs.length)*r.n=rows.length*r.n+vs.length*r.n:=ATn ..;rcases hcase with⟨h0,_⟩|⟨b,o,arr,ty,fr,rfl,hb,PC,hu,rfl,rb⟩
   ·omega
   have AFF:b<w.heap.size:=hSep.lt b (by simp);have jX:=AKk (ρ:=ρ) L (i0:=i0) (z:=z) i1 i4 (by rw[i2];exact hzl) (by rw[i2];exact hn0) (by omega) b o rows.length cap p ⟨vb,vo,none⟩ vs.length vc css.flatten rr.flatten w Kg hm hle (by omega) Zk (by rw[i2];exact ym) (by rw[i2];exact zi) AFF rb AbK (by rw[i2];exact AUC) AL4 AFg;refine fin jX fun e w' h=> ?_
   obtain⟨rfl,W,si,hWo,hWt,hWu,rfl⟩:=h
   generalize grownCap w (rows.length+vs.length) cap (ρ.t 9)=gc at hgc si⊢
   have hA:(css.flatten.take (p*r.n)).length=p*r.n:=by rw[AWg];omega
   have hB:(css.flatten.drop (p*r.n)).length=rows.length*r.n-p*r.n:=by rw[AWf,ym]
   rw[i2]at si
   generalize ABb:(css.flatten.take (p*r.n)).toArray++Builtin.zeroCells z.cells (rows.length+vs.length-p)++Builtin.zeroCells z.cells (gc-(rows.length+vs.length))=ROW at si
   have hRs:ROW.size=gc*r.n:=by
    rw[←ABb];simp only[AXO,AXP,ZD,hzl,hA,←ATn];congr 1;omega
   have hgm:(rows.length+vs.length)*r.n≤gc*r.n:=AOr _ hgc;have hbW:W.heap[w.heap.size]? =some (.cells ROW (ρ.t 9)):=by rw[si];simp
   have hcA:Bc W w.heap.size 0 (css.flatten.take (p*r.n)):=fun j v hj=>by
    have qu:=(AMK.1 hj).1;rw[Ka hbW,ATU,←Array.getElem?_toList,←ABb];simp only[Array.toList_append,AM8];rw[ANd qu];exact hj
   obtain⟨KI,q1,q2,q3⟩:=jJ (B:=css.flatten.drop (p*r.n)) (V:=rr.flatten) hbW (by omega) hcA;rw[hA,zi,←ANb,←i2,ATU,ATU]at q1 q3
   generalize rI:(W.setCells w.heap.size (p*i0.size) rr.flatten).setCells w.heap.size ((p+vs.length)*i0.size) (css.flatten.drop (p*i0.size))=w' at q1 q3
   have xy:=(((xP.take p).append X5).append (xP.drop p)).to (w':=w') hf;rw[iS]at xy;have hll:l'.length=rows.length+vs.length:=by rw[←iS];simp;omega
   refine⟨_,w.heap.size::(List.replicate l'.length ([]:AA4)).flatten,rfl,rfl,?_,?_,?_,fun c hc=> ?_,?_⟩
   ·have:=jM (cap:=gc) (xy.at (S:=E.S) (d:=0) hf) q1 (by
     rw[ATo,ATo,←xP.sO p hpn,←xP.so p hpn,←i2];exact q3) (by rw[hll];exact hgc) (by rw[q2];omega) (WM _)
    rw[mK]at this⊢;rw[hll]at this;exact this
   ·simp
   ·intro c hc
    rw[mK]at hc;simp at hc;subst hc;refine⟨fun x_=>Nat.lt_irrefl _ (hSep.cS _ x_),?_⟩;rw[←rI,DY,DY,si];simp
   ·have cO:=hSep.cS c hc
    rw[←rI,DP _ _ _ _ _ (by omega),DP _ _ _ _ _ (by omega),si];exact Ih cO
   ·rw[←rI]
    refine Grown.trans' (w':=W) ⟨hWo,hWt,hWu,by rw[si];simp⟩ (Grown.trans' (B_ _ _ _ _) (B_ _ _ _ _))
end Go.Fw
end
section
namespace Go.Fw
open Go.M Go.Proofs Go.Shelf Go.RowKit Go.Lib
structure oc (P:Program) (ρ:Ren) (nm:String):Prop where
 mixed:P.follows .mixedOrders=true
 f24:P.funcs[ρ.f 24]? =some { Body2.n24 ρ with name:=nm }
 n24:(nm== "runtime.NumGoroutine")=false
 t0:P.underlying (ρ.t 0)=some (TypeDesc.tuple #[])
 a0:∀w,(isAgg (ρ.t 0)).run P w= .ok false w
 z0:∀w,(Go.sizeOf (ρ.t 0)).run P w= .ok 1 w
 v0:∀w,(zeroValue (ρ.t 0)).run P w= .ok (Value.tuple #[]) w
 t3:P.underlying (ρ.t 3)=some (TypeDesc.int IntKind.i64)
 a3:∀w,(isAgg (ρ.t 3)).run P w= .ok false w
 z3:∀w,(Go.sizeOf (ρ.t 3)).run P w= .ok 1 w
 v3:∀w,(zeroValue (ρ.t 3)).run P w= .ok (Value.int IntKind.i64 0) w
 t4:P.underlying (ρ.t 4)=some (TypeDesc.bool)
 a4:∀w,(isAgg (ρ.t 4)).run P w= .ok false w
 z4:∀w,(Go.sizeOf (ρ.t 4)).run P w= .ok 1 w
 v4:∀w,(zeroValue (ρ.t 4)).run P w= .ok (Value.bool false) w
 t24:P.underlying (ρ.t 24)=some (TypeDesc.slice (ρ.t 9))
 a24:∀w,(isAgg (ρ.t 24)).run P w= .ok false w
 z24:∀w,(Go.sizeOf (ρ.t 24)).run P w= .ok 1 w
 v24:∀w,(zeroValue (ρ.t 24)).run P w= .ok (Value.slice none 0 0) w
section
variable{P:Program} {ρ:Ren} {nm:String}
set_option maxHeartbeats 4000000 in
set_option maxRecDepth 1000000 in
theorem AFd(L:oc P ρ nm){k:Nat}(z9:∀w,(Go.sizeOf (ρ.t 9)).run P w= .ok k w)(ad:Option Addr)(n c i:Nat)(w:World)(hi:i≤n)(hnc:n≤c):
  Calls P (ρ.f 24) #[.slice ad n c,.int .i64 i,.int .i64 i] w fun e w' =>e= .returned (.slice ad n c)∧w' =w:=by
 have mixed:=L.mixed;have t0:=L.t0;have a0:=L.a0;have z0:=L.z0;have v0:=L.v0;have t3:=L.t3;have a3:=L.a3;have z3:=L.z3;have v3:=L.v3;have t4:=L.t4;have a4:=L.a4;have z4:=L.z4;have v4:=L.v4;have t24:=L.t24;have a24:=L.a24;have z24:=L.z24;have v24:=L.v24;have u0:=run_underlying L.t0;have u3:=run_underlying L.t3;have u4:=run_underlying L.t4;have Xj:=run_underlying L.t24
 go_enter L.f24,Body2.n24_ntmps ρ
 cases ad with
 |none=>
  go_wp2
  all_goals (go_ret;exact⟨rfl,rfl⟩)
 |some a=>
  obtain⟨ab,ao,asp⟩:=a
  go_wp2
  all_goals (go_ret;exact⟨rfl,rfl⟩)
theorem vq{w:World}{t elem ty:TypeId}{i0:TypeInfo}{z:Value}{b o n cap:Nat}{Z:List Value}(hu:P.underlying t=some (.slice elem))(hi:P.info? elem=some i0)(hz:i0.zero=some z)(hn:0<n)(hZ:(Builtin.zeroCells z.cells n).toList=Z)
  (pQ:w.there b o Z.length) (h1:∀v∈Z,v.oneCell' =true):(Builtin.clear_ #[t] ty #[.slice (some ⟨b,o,none⟩) n cap]).run P w= .ok (.tuple #[]) (w.setCells b o Z):=by
 have fN:=run_storeCells_cells (P:=P) b o Z 0 w (by simpa using fun j hj=>(pQ j hj).1) (by simpa using fun j hj=>(pQ j hj).2) h1;rw[AUN]at fN;obtain⟨n,rfl⟩:∃m,n=m+1:=⟨n-1,by omega⟩;simp[Builtin.clear_,run_underlying hu,zeroValue,typeInfo,hi,hz,hZ,fN]
set_option maxHeartbeats 4000000 in
set_option maxRecDepth 1000000 in
theorem ADm(L:oc P ρ nm){i0:TypeInfo}{z:Value}(vV:P.info? (ρ.t 9)=some i0)(hz:i0.zero=some z)(b off n c i j:Nat)(cs Z:List Value)(w:World)(zF:i<j)(hj:j≤n)(hnc:n≤c)
  (cO:cs.length=n*i0.size) (wi:Bc w b off cs) (pQ:w.there b off (n*i0.size)) (h1c:∀v∈cs,v.oneCell' =true) (hZ:(Builtin.zeroCells z.cells (j-i)).toList=Z) (hZl:Z.length=(j-i)*i0.size) (h1z:∀v∈Z,v.oneCell' =true):
  Calls P (ρ.f 24) #[.slice (some ⟨b,off,none⟩) n c,.int .i64 i,.int .i64 j] w fun e w' =>
   e= .returned (.slice (some ⟨b,off,none⟩) (i+(n-j)) c)∧ ∃W:World,W.heap=w.heap∧Grown w W∧w' =(W.setCells b (off+i*i0.size) (cs.drop (j*i0.size))).setCells b (off+(i+(n-j))*i0.size) Z:=by
 have mixed:=L.mixed;have t0:=L.t0;have a0:=L.a0;have z0:=L.z0;have v0:=L.v0;have t3:=L.t3;have a3:=L.a3;have z3:=L.z3;have v3:=L.v3;have t4:=L.t4;have a4:=L.a4;have z4:=L.z4;have v4:=L.v4;have t24:=L.t24;have a24:=L.a24;have z24:=L.z24;have v24:=L.v24;have u0:=run_underlying L.t0;have u3:=run_underlying L.t3;have u4:=run_underlying L.t4;have Xj:=run_underlying L.t24;have z9:∀w,(Go.sizeOf (ρ.t 9)).run P w= .ok i0.size w:=fun w=>by simp[sizeOf,typeInfo,vV]
 obtain⟨k,hk⟩:∃k,i0.size=k:=⟨_,rfl⟩;rw[hk]at cO pQ hZl z9⊢;have e1:(n-j)*k=n*k-j*k:=AWR ..;have e2:(j-i)*k=j*k-i*k:=AWR ..;have e3:j*k≤n*k:=AOr _ hj;have e4:i*k≤j*k:=AOr _ (by omega);have e5:(i+(n-j))*k=i*k+(n-j)*k:=ATn ..;obtain⟨news,l9⟩:∃news,news=cs.drop (j*k):=⟨_,rfl⟩;have hlen:news.length=(n-j)*k:=by rw[l9,AWf,cO];omega
 rw[←l9];obtain⟨A,hA,ANI⟩:∃A:Addr,(if c=j then(some ⟨b,off,none⟩:Option Addr)else some ⟨b,off+j*k,none⟩)=some A∧Hid (∀t u,news[t]? =some u→w.drew.cell? (A.add t)=some u):=by
  by_cases h:c=j
  ·refine⟨⟨b,off,none⟩,by simp[h],fun t u hu=> ?_⟩
   have h0:news.length=0:=by rw[hlen,show n-j=0 by omega,Nat.zero_mul]
   rw[AXL.1 h0]at hu;simp at hu
  ·refine⟨⟨b,off+j*k,none⟩,by simp[h],fun t u hu=> ?_⟩
   rw[l9,AWm]at hu;rw[Addr.add_eq,AT8];exact wi _ u hu
 have s1:Hid (news.length=(n-j)*k):=hlen;have s2:Hid (∀u∈news,u.oneCell' =true):=fun u hu=>h1c u (by rw[l9]at hu;exact AVs hu)
 have s3:Hid (∀t,t<news.length→(w.drew.cell? ⟨b,off+i*k+t,none⟩).isSome=true∧w.drew.frozen? ⟨b,off+i*k+t,none⟩=false):=by
  intro t ht;rw[hlen]at ht;rw[AT8];exact pQ _ (by omega)
 obtain⟨W1,hW1⟩:∃W1,W1=w.drew.setCells b (off+i*k) news:=⟨_,rfl⟩;have Ad7:∀ty,(Builtin.clear_ #[ρ.t 24] ty #[.slice (some ⟨b,off+(i+(n-j))*k,none⟩) (n-(i+(n-j))) (c-(i+(n-j)))]).run P W1= .ok (.tuple #[]) (W1.setCells b (off+(i+(n-j))*k) Z):=fun ty=>by
  rw[show n-(i+(n-j))=j-i by omega];refine vq L.t24 vV hz (by omega) hZ (fun t ht=> ?_) h1z;rw[hZl]at ht;have h0:=pQ ((i+(n-j))*k+t) (by omega);rw[←AT8]at h0;rw[hW1];refine⟨isSome_setCells b _ _ _ (fun q hq=> ?_) _ h0.1,by rw[World.frozen?_setCells];exact h0.2⟩;rw[hlen]at hq;have:=(pQ (i*k+q) (by omega)).1;rw[←AT8]at this;exact this
 have hW:Hid (W1=w.drew.setCells b (off+i*k) news):=hW1;have hic:i≤c:=by omega
 have hjc:j≤c:=by omega
 have hjn:(i:Int)≤(j:Int):=by omega
 have fin:∃W:World,W.heap=w.heap∧Grown w W∧W1.setCells b (off+(i+(n-j))*k) Z=(W.setCells b (off+i*k) news).setCells b (off+(i+(n-j))*k) Z:=⟨w.drew,rfl,⟨rfl,rfl,rfl,AQW _⟩,by rw[hW1]⟩;clear hW1 l9 hlen e1 e2 e3 e4 e5 pQ wi cO hZl
 go_enter L.f24,Body2.n24_ntmps ρ
 go_wp2_with fail
 go_region_law_o (refine step_append_room rfl (.tmp 22) (.tmp 25) (ρ.t 24) rfl (ρ.t 9) i0 k t24 vV hk b off i c (by simp[Act.eval,Act.put]) A (n-j) (c-j) news (by simp[Act.eval,Act.put]) s1.out ANI.out s2.out (by omega) s3.out ?_;rw[←hW.out])
 go_wp2
 go_ret
 exact⟨rfl,fin⟩
end
end Go.Fw
end
section
namespace Go.Fw
open Go.M Go.Proofs Go.Shelf Go.RowKit Go.Lib
theorem FK.take{w:World}{S:Nat→Prop}{d:Nat}{r:Ty}{css:List (List Value)}{rows:List r.D}{Fs:List AA4}(h:FK w S d r css rows Fs)(n:Nat):FK w S d r (css.take n) (rows.take n) (Fs.take n):=by
 refine⟨by simp[h.1],by simp[h.2.1],fun c hc=>h.2.2.1 c (AXF hc),fun i cs y G a b c=> ?_⟩;rw[AWn]at a b c;split at a
 ·rename_i hi
  rw[ALy hi]at b c;exact h.2.2.2 i cs y G a b c
 simp_all
theorem FK.drop{w:World}{S:Nat→Prop}{d:Nat}{r:Ty}{css:List (List Value)}{rows:List r.D}{Fs:List AA4}(h:FK w S d r css rows Fs)(n:Nat):FK w S d r (css.drop n) (rows.drop n) (Fs.drop n):=by
 refine⟨by simp[h.1],by simp[h.2.1],fun c hc=>h.2.2.1 c (AVs hc),fun i cs y G a b c=> ?_⟩;rw[AWm]at a b c;exact h.2.2.2 _ cs y G a b c
theorem ABs{r:Ty}{css:List (List Value)}(hl:∀c∈css,c.length=r.n)(n:Nat)(hn:n≤css.length):css.flatten.take (n*r.n)=(css.take n).flatten:=by
 have h1:((css.take n).flatten).length=n*r.n:=by
  grind[He,List.mem_of_mem_take,List.length_take,Nat.min_eq_left]
 grind[List.take_append_drop,List.flatten_append,List.take_of_length_le]
theorem ACb{r:Ty}{css:List (List Value)}(hl:∀c∈css,c.length=r.n)(n:Nat)(hn:n≤css.length):css.flatten.drop (n*r.n)=(css.drop n).flatten:=by
 have h1:((css.take n).flatten).length=n*r.n:=by
  grind[He,List.mem_of_mem_take,List.length_take,Nat.min_eq_left]
 grind[List.take_append_drop,List.flatten_append,List.drop_eq_nil_of_le]
theorem dY:∀{A B:List AA4},A.Sublist B→A.flatten.Sublist B.flatten
 |_,_,.slnil=> .slnil
 |_,_,.cons b h=>(dY h).trans (List.sublist_append_right _ _)
 |_,_,.cons_cons b h=>(List.Sublist.refl b).append (dY h)
theorem U0{Fs:List AA4}{p q:Nat}(hpq:p≤q):((Fs.take p++Fs.drop q).flatten).Sublist Fs.flatten:=by
 grind[List.drop_drop,List.drop_sublist,List.take_append_drop,dY]
@[reducible] def sf (d:Nat) (r:Ty):Ba:=⟨[(0,.c (.ref 0)),(1,.c (.v (.int .i64))),(2,.c (.v (.int .i64)))],[.sl d r]⟩
@[reducible] def yV (d:Nat) (r:Ty):Ba:=⟨[(0,.c (.ref 1))],[.gone,.sl d r]⟩
theorem uK{P:Program}{T:JY}{ρ:Ren}{nm:String}(hT:Eo P T)(L:oc P ρ nm){r:Ty}(T7:T.M6 (ρ.t 24) r=true)(hn0:0<r.n)(m:Nat):
  Xe P (ρ.f 24) ⟨sf (m+1) r,yV (m+1) r,fun v=>(AEh v.1.2.1 v.1.2.2.1 v.2.1).map fun l=>(((),()),((),l,()))⟩:=by
 refine⟨by rfl,XS L.f24 L.n24 (by kernel_rfl),?_⟩;intro E w v args u ATv hB hS hg;obtain⟨⟨u0,p,q,u1⟩,rows,u2⟩:=v;obtain⟨⟨⟨⟩,⟨⟩⟩,⟨⟩,l,⟨⟩⟩:=u;simp only[AMI]at hg;obtain⟨l',iS,hg⟩:=hg;simp only[APv,true_and,ATG]at hg;subst hg;unfold AEh at iS;split at iS
 case isFalse=>cases iS
 rename_i hc;obtain⟨hp0,hpq,hqn⟩:=hc;have hq0:(0:Int)≤q:=Int.le_trans hp0 hpq;obtain⟨p,rfl⟩:=AXM hp0;obtain⟨q,rfl⟩:=AXM hq0;simp only[AMV,AMF]at iS;have AO3:p≤q:=by omega
 have AOJ:q≤rows.length:=by omega
 obtain⟨⟨a0,h0,x0⟩,⟨a1,h1,x1⟩,⟨a2,h2,x2⟩,_⟩:=hS;have H_:args= #[a0,a1,a2]:=by
  grind
 subst H_;have e0:E.Hl 0=a0:=by
  have:VR E w [Bx.sl (m+1) r rows] (.ref 0 []) a0:=x0;grind[VR,C8,Option.some.inj]
 have e1:a1= .int .i64 (p:Int):=by
  have:VR E w [Bx.sl (m+1) r rows] (.v (.int .i64) (p:Int)) a1:=x1;simp only[VR,Rd,AQj,ATG]at this;simp_all
 have e2:a2= .int .i64 (q:Int):=by
  have:VR E w [Bx.sl (m+1) r rows] (.v (.int .i64) (q:Int)) a2:=x2;simp only[VR,Rd,AQj,ATG]at this;simp_all
 subst e1 e2;obtain⟨Fs,⟨hFl,hFb⟩,hSep⟩:=hB;obtain⟨F,rfl⟩:∃F,Fs=[F]:=by
  match Fs,hFl with
  |[F],_=>simp_all
 have ADV:=hFb 0 (.sl (m+1) r rows) F rfl rfl;obtain⟨_,ho⟩:=ADV;rw[e0]at ho;simp only[AUJ,AWd,AM5]at hSep;have ho0:=ho;obtain⟨ad,cap,css,Fs1,R1,rfl,hle,hd,hp1',hcase⟩:=nW ho;obtain⟨e,ti,hut,Um,hs1,hby,hrow⟩:=J6 hT T7;obtain⟨i0,z,i1,i2,i3,i4,i5,mA⟩:=WQ hT Um hrow;have he:e=ρ.t 9:=by
  have:=L.t24.symm.trans hut;simp_all
 subst he;rw[hs1]at i2;have z9:∀w,(Go.sizeOf (ρ.t 9)).run P w= .ok r.n w:=fun w=>by simp[sizeOf,typeInfo,i1,i2]
 have hzl:z.cells.size=r.n:=by rw[←AWN,i5,Gp]
 have fin:∀{Q:Ending→World→Prop},Calls P (ρ.f 24) #[.slice ad rows.length cap,.int .i64 (p:Int),.int .i64 (q:Int)] w Q→
   (∀e w',Q e w'→ ∃v F',e= .returned v∧isSlice v=true∧Ow w' E.S (m+1) (.sl r) [v] l' F'∧F'.Nodup∧(∀c∈F',¬E.T c∧c<w'.heap.size)∧(∀c,E.T c→w'.heap[c]? =w.heap[c]?)∧Grown w w')→_:=fun h hq=>AAq (by omega) hSep h hq
 by_cases hpe:p=q
 ·subst hpe
  have hl:rows=l':=by simp_all
  subst hl;refine fin (AFd (k:=r.n) L z9 ad rows.length cap p w AOJ hle) fun e w' h=> ?_
  obtain⟨rfl,rfl⟩:=h;exact⟨_,F,rfl,rfl,ho0,hSep.nodup,fun c hc=>⟨hSep.free c hc,hSep.lt c hc⟩,fun _ _=>rfl,⟨rfl,rfl,rfl,AQW _⟩⟩
 have Kg:p<q:=by omega
 rcases hcase with⟨h0,_⟩|⟨b,o,arr,ty,fr,rfl,hb,PC,hu,rfl,rb⟩
 ·omega
 have hbT: ¬E.T b:=hSep.free b (by simp);have AFF:b<w.heap.size:=hSep.lt b (by simp);have qw:=AW6.1 hSep.nodup;have ym:css.flatten.length=rows.length*r.n:=by rw[He hd.2.2.1,hd.1]
 have g1:(rows.length-q)*r.n=rows.length*r.n-q*r.n:=AWR ..;have g2:(q-p)*r.n=q*r.n-p*r.n:=AWR ..;have g3:q*r.n≤rows.length*r.n:=AOr _ AOJ;have g4:p*r.n≤q*r.n:=AOr _ AO3;have g5:(p+(rows.length-q))*r.n=p*r.n+(rows.length-q)*r.n:=ATn ..;have g6:rows.length*r.n≤cap*r.n:=AOr _ hle;have hzr:En r≠[]:=fun h=>by simp_all
 have hZ:(Builtin.zeroCells z.cells (q-p)).toList=(List.replicate (q-p) (En r)).flatten:=by
  grind[Builtin.zeroCells,V6,En,Gp]
 have hZl:((List.replicate (q-p) (En r)).flatten).length=(q-p)*r.n:=by rw[G3,Gp]
 have hZ1:∀v∈(List.replicate (q-p) (En r)).flatten,v.oneCell' =true:=fun v hv=>by
  obtain⟨c,hc1,hc2⟩:=ASw.1 hv;rw[ATu hc1]at hc2;exact j6 (w:=w) (S:=E.S) (d:=0) (d_ mA) v hc2
 have jX:=ADm (ρ:=ρ) L (i0:=i0) (z:=z) i1 i4 b o rows.length cap p q css.flatten _ w Kg AOJ hle (by simp_all) rb (by grind[US,mk]) hd.one hZ (by simp_all) hZ1;refine fin jX fun e w' h=> ?_
 obtain⟨rfl,W,si,hWg,rfl⟩:=h;rw[i2];have hA:(css.flatten.take (p*r.n)).length=p*r.n:=by grind
 have hB:(css.flatten.drop (q*r.n)).length=(rows.length-q)*r.n:=by simp_all
 have hbW:W.heap[b]? =some (.cells arr ty fr):=by simp_all
 have hcA:Bc W b o (css.flatten.take (p*r.n)):=Bc.heap (fun j v hj=>by
  rw[AWn]at hj;split at hj
  ·exact rb j v hj
  simp_all) si
 obtain⟨KI,q1,q2,q3⟩:=jJ (B:=(List.replicate (q-p) (En r)).flatten) (V:=css.flatten.drop (q*r.n)) hbW (by omega) hcA;rw[hA,hB,←g5]at q1 q3
 generalize rI:(W.setCells b (o+p*r.n) (css.flatten.drop (q*r.n))).setCells b (o+(p+(rows.length-q))*r.n) ((List.replicate (q-p) (En r)).flatten)=w' at q1 q3
 have cy:∀c,c≠b→w'.heap[c]? =w.heap[c]?:=fun c hc=>by grind[DP]
 have hcT:∀c,E.T c→c≠b:=fun c hc e=>hbT (e▸hc)
 have hra:=((hd.take p).append (hd.drop q)).mono (w':=w') (S':=E.S) (fun _ h=>h) (fun c hc=>cy c (hcT c (hSep.st c hc))) (fun c hc=>cy c (fun e=>qw.1 (e▸(U0 AO3).subset hc)));rw[iS]at hra;have hll:l'.length=p+(rows.length-q):=by grind
 refine⟨_,b::(Fs1.take p++Fs1.drop q).flatten,rfl,rfl,?_,?_,fun c hc=> ?_,fun c hc=>cy c (hcT c hc),?_⟩
 ·have cO:css.length=rows.length:=hd.1
  have:=jM (cap:=cap) hra q1 (by
   rw[ATo,←ABs hd.2.2.1 p (by omega),←ACb hd.2.2.1 q (by omega)];intro j v hj;exact q3 j v (by grind)) (by omega) (by omega) (by simp_all)
  simp_all
 ·grind[List.nodup_cons,U0]
 ·have AZ8:w'.heap.size=w.heap.size:=by grind[DY]
  rcases ANv.1 hc with rfl|hc
  ·simp_all
  ·have hm:c∈b::Fs1.flatten:=AXV _ ((U0 AO3).subset hc)
   exact⟨hSep.free c hm,by rw[AZ8];exact hSep.lt c hm⟩
 grind[Grown.trans',B_]
end Go.Fw
end
section
namespace Go.Fw
open Go.M Go.Proofs Go.Shelf Go.RowKit Go.Lib
section
variable{P:Program} {ρ:Ren} {nm:String} {fv:Func}
theorem QX{t:TypeId}{n:Nat}(h:(P.info? t).map (·.size)=some n):∀w,(Go.sizeOf t).run P w= .ok n w:=fun w=>by
 obtain⟨i,hi,rfl⟩:=AMI.1 h;simp[sizeOf,typeInfo,hi]
theorem YN{t:TypeId}{z:Value}(h:(P.info? t).bind (·.zero)=some z):∀w,(zeroValue t).run P w= .ok z w:=fun w=>by
 obtain⟨i,hi,hz⟩:=AMQ.1 h;simp[zeroValue,typeInfo,hi,hz]
structure mI (P:Program) (ρ:Ren):Prop where
 t0:P.underlying (ρ.t 0)=some (TypeDesc.tuple #[])
 t3:P.underlying (ρ.t 3)=some (TypeDesc.int IntKind.i64)
 t4:P.underlying (ρ.t 4)=some (TypeDesc.bool)
 t24:P.underlying (ρ.t 24)=some (TypeDesc.slice (ρ.t 9))
 s0:(P.info? (ρ.t 0)).map (·.size)=some 1
 s3:(P.info? (ρ.t 3)).map (·.size)=some 1
 s4:(P.info? (ρ.t 4)).map (·.size)=some 1
 s24:(P.info? (ρ.t 24)).map (·.size)=some 1
 v0:(P.info? (ρ.t 0)).bind (·.zero)=some (Value.tuple #[])
 v3:(P.info? (ρ.t 3)).bind (·.zero)=some (Value.int IntKind.i64 0)
 v4:(P.info? (ρ.t 4)).bind (·.zero)=some (Value.bool false)
 v24:(P.info? (ρ.t 24)).bind (·.zero)=some (Value.slice none 0 0)
theorem mI.ins(h:mI P ρ)(hm:P.follows .mixedOrders=true)(f22:P.funcs[ρ.f 22]? =some { Body2.n22 ρ with name:=nm })(n22:(nm== "runtime.NumGoroutine")=false)(f29:P.funcs[ρ.f 29]? =some fv)(n29:(fv.name== "runtime.NumGoroutine")=false)
  (b29:fv.body.isNone=true) (e29:Extern.findNext fv=none) (x29:Extern.find fv=some (Extern.SlicesOverlaps.overlaps #[(ρ.t 24),(ρ.t 24)] #[(ρ.t 4)])):dh P ρ nm fv:=
 ⟨hm,f22,n22,f29,n29,b29,e29,x29,h.t0,run_isAgg_plain h.t0 rfl,QX h.s0,YN h.v0,h.t3,run_isAgg_plain h.t3 rfl,QX h.s3,YN h.v3,h.t4,run_isAgg_plain h.t4 rfl,QX h.s4,YN h.v4,h.t24,run_isAgg_plain h.t24 rfl,QX h.s24,YN h.v24⟩
theorem mI.del(h:mI P ρ)(hm:P.follows .mixedOrders=true)(f24:P.funcs[ρ.f 24]? =some { Body2.n24 ρ with name:=nm })(n24:(nm== "runtime.NumGoroutine")=false):oc P ρ nm:=
 ⟨hm,f24,n24,h.t0,run_isAgg_plain h.t0 rfl,QX h.s0,YN h.v0,h.t3,run_isAgg_plain h.t3 rfl,QX h.s3,YN h.v3,h.t4,run_isAgg_plain h.t4 rfl,QX h.s4,YN h.v4,h.t24,run_isAgg_plain h.t24 rfl,QX h.s24,YN h.v24⟩
@[reducible] def JD (f22 f24 f29 f30 t24 t9:Nat):Ren:=⟨fun k=>if k=22 then f22 else if k=24 then f24 else if k=29 then f29 else if k=30 then f30 else k,fun k=>if k=24 then t24 else if k=9 then t9 else k,fun k=>k⟩
def AOO{T:JY}(hT:Eo P T)(L:dh P ρ nm fv){r:Ty}{f:Nat}(hf:ρ.f 22=f)(T7:T.M6 (ρ.t 24) r=true)(hr:(r.flat&&(decide (mk r=1)&&decide (0<r.n)))=true)(g:(sd r).Cu (Option (zd r).V))
  (hg:∀v:(sd r).V,(sd r).un g v=(vY v.1.2.1 v.1.2.2.1 v.2.1).map fun l=>(((),()),((),l,()))):SP P:=
 ⟨f,⟨sd r,zd r,(sd r).un g⟩,by
  simp only[AML,AMc]at hr;rw[funext hg,←hf];grind[uf]⟩
def AXx{T:JY}(hT:Eo P T)(L:oc P ρ nm){r:Ty}{f:Nat}(m:Nat)(hf:ρ.f 24=f)(T7:T.M6 (ρ.t 24) r=true)(hr:decide (0<r.n)=true)(g:(sf (m+1) r).Cu (Option (yV (m+1) r).V))
  (hg:∀v:(sf (m+1) r).V,(sf (m+1) r).un g v=(AEh v.1.2.1 v.1.2.2.1 v.2.1).map fun l=>(((),()),((),l,()))):SP P:=
 ⟨f,⟨sf (m+1) r,yV (m+1) r,(sf (m+1) r).un g⟩,by
  rw[funext hg,←hf];exact uK hT L T7 (of_decide_eq_true hr) m⟩
end
end Go.Fw
end
