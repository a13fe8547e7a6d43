/- The framework, part 2: a checked interpreter of the model's code over abstract states; no claim is made here. -/
import Derived.Test.YtebiojjohcpanaaGreatF0
import Derived.Below
import Derived.ChangeArms
import Derived.ChangeOld
import Derived.DataReads
import Derived.OrdersHeld
import Derived.Shelf.Slices.Delete
import Derived.Shelf.Spec.SlicesInsertGrow
import Derived.Tactics
set_option linter.unusedVariables false
set_option linter.unusedSimpArgs false
set_option linter.unusedSectionVars false
section
namespace Go.Fw
def alive(l:List BP)(i:Nat):Bool:=
 match l[i]? with
 |some .gone=>false
 |some _=>true
 |none=>false
def AP.Lm(l:List BP):AP→Bool
 | .sl s _=>s
 | .mr _=>false
 | .j0 _ _=>false
 | .qv _ _=>false
 | .ref i=>decide (i<l.length)
 | .ptr i _=>alive l i
 | .fn _ KZ=>KZ.all (alive l)
 |_=>true
def XP.Lm(l:List BP):XP→Bool
 | .c p=>p.Lm l
 | .agg q=>q.all (AP.Lm l)
 | .Me q=>q.all fun| .inl p=>p.Lm l| .inr q=>q.all (AP.Lm l)
 | .row _=>false
def BP.Lm(l:List BP):BP→Bool
 | .mem q=>q.all (AP.Lm l)
 |_=>true
def kinds:List BP→List BP→Bool
 |[],_=>true
 | .mem _::l,.mem _::m=>kinds l m
 | .sl _ r::l,.sl _ q::m=>decide (r=q)&&kinds l m
 | .mem _::l,.gone::m=>kinds l m
 | .sl _ _::l,.gone::m=>kinds l m
 |_,_=>false
def kD(l:List BP):List (Nat×XP)→Bool
 |[(0,p)]=>p.Lm l
 |_=>false
def QN.ok(c:QN):Bool:=
 kinds c.ins.Gz c.outs.Gz&&kD c.outs.Gz c.outs.D3&&c.outs.Gz.all (BP.Lm c.outs.Gz)
theorem XB:∀{l m:List BP},kinds l m=true→l.length≤m.length∧ ∀(i:Nat) p,l[i]? =some p→p≠ .gone∧ ∀d r,m[i]? =some (.sl d r)→ ∃d',p= .sl d' r
 |[],m,_=>⟨by simp,fun i p h=>by simp at h⟩
 | .gone::l,[],h=>by simp[kinds]at h
 | .gone::l,_::_,h=>by simp[kinds]at h
 | .mem _::l,[],h=>by simp[kinds]at h
 | .sl _ _::l,[],h=>by simp[kinds]at h
 | .mem q::l,.mem _::m,h=>by
  obtain⟨h1,h2⟩:=XB (l:=l) (m:=m) (by simpa[kinds]using h);grind
 | .mem q::l,.gone::m,h=>by
  obtain⟨h1,h2⟩:=XB (l:=l) (m:=m) (by simpa[kinds]using h);grind
 | .mem q::l,.sl _ _::m,h=>by simp[kinds]at h
 | .sl d0 r0::l,.sl _ q::m,h=>by
  simp only[kinds,AMC,AMi]at h;obtain⟨h1,h2⟩:=XB (l:=l) (m:=m) h.2;grind
 | .sl d0 r0::l,.gone::m,h=>by
  obtain⟨h1,h2⟩:=XB (l:=l) (m:=m) (by simpa[kinds]using h);grind
 | .sl _ _::l,.mem _::m,h=>by simp[kinds]at h
def W9(P:Program)(f:Nat)(c:QN):Prop:=
 c.ok=true∧(∀args w,(callFunc f args).run P w= .ok (.enter f args) w)∧
 ∀(E:Env) (w:World) (v:c.ins.V) (args:Array Value) (u:c.outs.V),args.size=c.ins.D3.length→
  DD E w (Jl.mk id c.ins.Gz v.2) (Jl.mk id c.ins.Gz v.2) []→OB E w (Jl.mk id c.ins.Gz v.2) id c.ins.D3 v.1 args.toList→c.g v=some u→
  Calls P f args w fun e w' => ∃x E',e= .returned x∧d_ E w E' w'∧DD E' w' (Jl.mk id c.outs.Gz u.2) (Jl.mk id c.outs.Gz u.2) []∧
   OB E' w' (Jl.mk id c.outs.Gz u.2) id c.outs.D3 u.1 [x]∧ ∀i,i<c.ins.Gz.length→alive c.outs.Gz i=true→E'.H0 i=E.H0 i∧E'.H3 i=E.H3 i
theorem jW:∀x:AV,Gq [] x=x
 | .ref b (s::p)=>by rfl
 | .ref b []=>rfl
 | .win b (s::p) i n=>by rfl
 | .win b [] i n=>rfl
 | .JK b (s::p) i sz j=>by rfl
 | .JK b [] i sz j=>rfl
 | .v _ _=>rfl
 | .sl _ _ _=>rfl
 | .nil=>rfl
 | .IL _ _=>rfl
 | .PM _ _ _ _=>rfl
 | .fn _ _=>rfl
 | .qv _ _=>rfl
 | .yW=>rfl
 | .undef=>rfl
theorem ZZ:Gq []=id:=funext jW
theorem vM:∀x:XV,UJ [] x=x
 | .c x=>by simp[UJ,jW]
 | .agg l=>by simp[UJ,ZZ]
 | .Me l=>by
  simp only[UJ,ZZ];congr 1
  conv=>rhs;rw[←List.map_id l]
  apply ATR;intro x _;cases x with
  |inl x=>simp
  |inr q=>simp
theorem sH(m:Pc)(σ:St):(σ.ZR m).tm=σ.tm.map (UJ m):=by
 cases m with
 |nil=>
  simp only[St.ZR];have:UJ []=id:=funext vM;simp_all
 |cons _ _=>rfl
theorem ACe(m:Pc)(σ:St):(σ.ZR m).bx=σ.bx.map (Bx.map (Gq m)):=by
 cases m with
 |nil=>grind[St.ZR,ZZ,Z9]
 |cons _ _=>
  rfl
theorem dE(f:AV→AV):∀(m:Pc) (bx:List Bx),Cz (bx.map (Bx.map f)) m=(Cz bx m).map (Bx.map f)
 |[],_=>rfl
 |none::m,bx=>by simp only[Cz];exact dE f m bx
 |some b::m,bx=>by
  simp only[Cz];rw[←dE f m (bx.set b .dead),List.map_set];rfl
theorem Qq:∀{m:Pc} {bx:List Bx} {b:Nat},some b∉m→(Cz bx m)[b]? =bx[b]?
 |[],_,_,_=>rfl
 |none::m,bx,b,h=>by simp only[Cz];exact Qq (by simp_all)
 |some c::m,bx,b,h=>by
  simp only[Cz];rw[Qq (by simp_all),ASj (by grind)]
theorem AC5{E E':Env}{w w':World}{vw vw':List Bx}{m:Pc}(k:Sh E w vw E' w' (Cz vw' m))
  (hb:∀b d' r C1,some b∈m→vw'[b]? =some (.sl d' r C1)→ ∃d rows,vw[b]? =some (.sl d r rows)∧List.length C1=List.length rows∧E'.H3 b=E.H3 b) (hlen:vw.length≤vw'.length) {x:AV} {v:Value} (h:VR E w vw x v):VR E' w' vw' (Gq m x) v:=by
 have h1:=GM k h;have dZ:∀{b'},some b'∉m→(Cz vw' m)[b']? =vw'[b']?:=fun e=>Qq e
 have get:∀{b'},b'<vw.length→ ∃B,vw'[b']? =some B:=fun hl=>⟨_,ALR (by omega)⟩
 cases x with
 |v t x=>exact h1
 |sl s r x=>exact h1
 |nil=>exact h1
 |IL c j=>exact⟨by simpa[KF]using h1.1,h1.2⟩
 |PM s r x j=>exact h1
 |fn f KZ=>exact⟨fun c hc=>by simpa[KF]using h1.1 c hc,h1.2⟩
 |qv f rows=>exact h1
 |yW=>exact h1
 |undef=>trivial
 |ref c p=>
  have other:some c∉m→VR E' w' vw' (.ref c p) v:=fun e=>by
   grind[VR]
  cases p with
  |nil=>
   simp only[Gq];by_cases e:some c∈m
   ·simp only[VR]at h⊢
    obtain⟨h0,h⟩:=h;refine⟨h0,?_⟩;cases hc:vw[c]? with
    |none=>simp_all
    |some B=>
     obtain⟨B',TV⟩:=get (AMG.1 hc).1;rw[TV];cases B' with
     |mem cs=>trivial
     |dead=>trivial
     |sl d' r C1=>
      obtain⟨d,rows,e1,e2,e3⟩:=hb c d' r C1 e TV;rw[e1]at h;refine⟨by simp[DF],⟨_,rfl⟩,?_⟩;grind[DA]
   simp_all
  |cons s p=>
   simp only[Gq];split
   ·trivial
   simp_all
 |win c p off n=>
  have other:some c∉m→VR E' w' vw' (.win c p off n) v:=fun e=>by
   grind[VR]
  cases p with
  |nil=>
   simp only[Gq];by_cases e:some c∈m
   ·simp only[VR]at h⊢
    obtain⟨h0,h⟩:=h;refine⟨h0,?_⟩;cases hc:vw[c]? with
    |none=>simp_all
    |some B=>
     obtain⟨B',TV⟩:=get (AMG.1 hc).1;rw[TV];cases B' with
     |mem cs=>trivial
     |dead=>trivial
     |sl d' r C1=>
      obtain⟨d,rows,e1,e2,e3⟩:=hb c d' r C1 e TV;rw[e1]at h;obtain⟨_,q,ys,a,len,cap,g1,g2,g3,g4⟩:=h;simp only[G_,ALt,AM4]at g1;obtain⟨rfl,g1⟩:=g1;obtain rfl:=AQj g1;rw[DA]at g3;exact⟨by simp[DF],r,C1,a,len,cap,rfl,by omega,by grind[DA],g4⟩
   simp_all
  |cons s p=>
   simp only[Gq];split
   ·trivial
   simp_all
 |JK c p i sz j=>
  have other:some c∉m→VR E' w' vw' (.JK c p i sz j) v:=fun e=>by
   grind[VR]
  cases p with
  |nil=>
   simp only[Gq];by_cases e:some c∈m
   ·simp only[VR]at h⊢
    obtain⟨h0,h⟩:=h;refine⟨h0,?_⟩;cases hc:vw[c]? with
    |none=>simp_all
    |some B=>
     obtain⟨B',TV⟩:=get (AMG.1 hc).1;rw[TV];cases B' with
     |mem cs=>trivial
     |dead=>trivial
     |sl d' r C1=>
      obtain⟨d,rows,e1,e2,e3⟩:=hb c d' r C1 e TV;rw[e1]at h;obtain⟨_,q,ys,bb,o,len,cap,g1,g2,g3,g4⟩:=h;simp only[G_,ALt,AM4]at g1;obtain⟨rfl,g1⟩:=g1;obtain rfl:=AQj g1;rw[DA]at g3;exact⟨by simp[DF],r,C1,bb,o,len,cap,rfl,by omega,by grind[DA],g4⟩
   simp_all
  |cons s p=>
   simp only[Gq];split
   ·trivial
   simp_all
theorem ACG{E E':Env}{w w':World}{vw vw':List Bx}{m:Pc}(k:∀x v,VR E w vw x v→VR E' w' vw' (Gq m x) v){x:XV}{v:Value}(h:XR E w vw x v):XR E' w' vw' (UJ m x) v:=by
 cases x with
 |c x=>exact k x v h
 |agg l=>
  obtain⟨vs,rfl,VO⟩:=h;exact⟨vs,rfl,Ca.K4 _ k VO⟩
 |Me l=>
  obtain⟨vs,rfl,VO⟩:=h;refine⟨vs,rfl,Ca.K4 _ (fun x v hx=> ?_) VO⟩;cases x with
  |inl x=>exact k x v hx
  |inr q=>
   obtain⟨us,rfl,hus⟩:=hx;exact⟨us,rfl,Ca.K4 _ k hus⟩
def LN(Jf:Nat→Nat):Nat→List Bx→List Bx→List Bx
 |_,[],bx=>bx
 |i,B::l,bx=>LN Jf (i+1) l (if Jf i<bx.length then bx.set (Jf i) B else bx++[B])
theorem l7(Jf:Nat→Nat):∀(i:Nat) (l:List BP) (x:Jl.V l) (bx:List Bx),Zt Jf i l x bx=LN Jf i (Jl.mk Jf l x) bx
 |_,[],_,_=>rfl
 |i,p::l,x,bx=>by simp only[Zt,Jl.mk,LN];exact l7 Jf (i+1) l x.2 _
structure wA (Jf:Nat→Nat) (M N:Nat):Prop where
 lt:∀k,k<M→Jf k<N
 eq:∀k,M≤k→Jf k=N+(k-M)
 inj:∀k k',k<M→k'<M→Jf k=Jf k'→k=k'
theorem wA.AT8{Jf:Nat→Nat}{M N:Nat}(h:wA Jf M N){k k':Nat}(e:Jf k=Jf k'):k=k':=by
 by_cases h1:k<M
 ·by_cases h2:k'<M
  ·exact h.inj k k' h1 h2 e
  ·have:=h.lt k h1
   have:=h.eq k' (by omega);omega
 ·by_cases h2:k'<M
  ·have:=h.lt k' h2
   have:=h.eq k (by omega);omega
  ·have:=h.eq k (by omega)
   have:=h.eq k' (by omega);omega
theorem fJ{Jf:Nat→Nat}{M N:Nat}(h:wA Jf M N):∀{l:List Bx} {i:Nat} {bx:List Bx},bx.length=N+(i-M)→
  (LN Jf i l bx).length=N+(i+l.length-M)∧(∀(j:Nat) B,l[j]? =some B→(LN Jf i l bx)[Jf (i+j)]? =some B)∧
   ∀n,n<bx.length→(∀j,j<l.length→Jf (i+j)≠n)→(LN Jf i l bx)[n]? =bx[n]?
 |[],i,bx,hl=>⟨by grind[LN],fun j B hj=>by simp_all,fun _ _ _=>rfl⟩
 |B::l,i,bx,hl=>by
  simp only[LN];have im:(if Jf i<bx.length then bx.set (Jf i) B else bx++[B]).length=N+(i+1-M):=by
   split
   ·rename_i Lu
    by_cases hi:i<M
    ·grind
    ·have:=h.eq i (by omega);omega
   ·rename_i Lu
    by_cases hi:i<M
    ·have:=h.lt i hi;omega
    grind
  have Zl:(if Jf i<bx.length then bx.set (Jf i) B else bx++[B])[Jf i]? =some B:=by
   split
   ·simp_all
   ·rename_i Lu
    by_cases hi:i<M
    ·grind
    ·have:=h.eq i (by omega)
     grind
  obtain⟨q1,q2,q3⟩:=fJ h (l:=l) im;refine⟨by grind,fun j C hj=> ?_,fun n hn bd=> ?_⟩
  ·cases j with
   |zero=>
    simp at hj;subst hj;exact(q3 (Jf i) (AMG.1 Zl).1 (fun j hj e=>by have:=h.AT8 e;omega)).trans Zl
   |succ j=>
    grind
  ·have AZx:=bd 0 (by simp)
   rw[ATu]at AZx;rw[q3 n (by omega) (fun j hj=>by have:=bd (j+1) (by simp_all);grind)];grind
theorem dO{Jf:Nat→Nat}{M N:Nat}(h:wA Jf M N){E:Env}{w:World}{vw:List Bx}:∀{l:List Bx} {i:Nat} {bx:List Bx} {Fs:List ABJ},bx.length=N+(i-M)→(∀k,i≤k→k<M→bx[Jf k]? =some .dead)→
  Fs.length=l.length→(∀(j:Nat) B F,l[j]? =some B→Fs[j]? =some F→py E w vw (Jf (i+j)) B F)→DD E w vw bx Fs.flatten→DD E w vw (LN Jf i l bx) []
 |[],i,bx,Fs,hl,hd,hF,hB,vZ=>by
  grind[List.eq_nil_of_length_eq_zero,LN]
 |B::l,i,bx,F::Fs,hl,hd,hF,hB,vZ=>by
  simp only[LN];have hBi:=hB 0 B F rfl rfl;rw[ATu]at hBi;have next:∀{QQ},QQ.length=N+(i+1-M)→(∀k,i+1≤k→k<M→QQ[Jf k]? =some .dead)→DD E w vw QQ Fs.flatten→DD E w vw (LN Jf (i+1) l QQ) []:=by
   intro QQ h1 h2 h3;refine dO h h1 h2 (by simp_all) (fun j C G hC hG=> ?_) h3;have:=hB (j+1) C G (by simp_all) (by simp_all);grind
  rw[ATt]at vZ;by_cases hi:i<M
  ·have Lu:=h.lt i hi
   rw[ALP (by omega)];refine next (by grind) (fun k hk1 hk2=> ?_) (vZ.put (hd i (AQE _) hi) hBi);rw[ASj (fun e=>by have:=h.AT8 e;omega)];grind
  ·have heq:=h.eq i (by omega)
   rw[ALo (by omega)];have e1:Jf i=bx.length:=by omega
   rw[e1]at hBi;exact next (by grind) (fun k hk1 hk2=>by omega) (vZ.push hBi)
 |_::_,_,_,[],_,_,hF,_,_=>by simp_all
structure uq (E' E2:Env) (l:List BP) (u:Jl.V l) (vw2:List Bx) (Jf:Nat→Nat):Prop where
 ids:∀i,alive l i=true→E2.H0 (Jf i)=E'.H0 i∧E2.H3 (Jf i)=E'.H3 i
 bx:∀(i:Nat) p,l[i]? =some p→ ∃y,(Jl.mk id l u)[i]? =some (p.mk id y)∧vw2[Jf i]? =some (p.mk Jf y)
 S:E2.S=E'.S
theorem bL(Jf:Nat→Nat):∀{l:List BP} {u:Jl.V l} {i:Nat} {p:BP},l[i]? =some p→ ∃y:p.V,(Jl.mk id l u)[i]? =some (p.mk id y)∧(Jl.mk Jf l u)[i]? =some (p.mk Jf y)
 |q::l,u,0,p,h=>by
  simp at h;subst h;exact⟨u.1,rfl,rfl⟩
 |q::l,u,i+1,p,h=>by
  obtain⟨y,h1,h2⟩:=bL Jf (u:=u.2) (i:=i) (by simpa using h);grind[Jl.mk]
 |[],_,_,_,h=>by simp at h
theorem TB(Jf:Nat→Nat):∀{l:List BP} {u:Jl.V l},(Jl.mk Jf l u).length=l.length
 |[],_=>rfl
 |_::l,u=>by simp[Jl.mk,TB Jf (l:=l)]
section
variable{E' E2:Env} {w:World} {l:List BP} {u:Jl.V l} {vw2:List Bx} {Jf:Nat→Nat} (r:uq E' E2 l u vw2 Jf)
include r
omit r in
theorem sP{i:Nat}(h:alive l i=true):∃p,l[i]? =some p∧p≠ .gone:=by
 unfold alive at h;cases e:l[i]? with
 |none=>rw[e]at h;cases h
 |some p=>
  refine⟨p,rfl,fun hp=> ?_⟩;rw[e,hp]at h;cases h
theorem zZ{p:AP}{y:p.V}{v:Value}(Bq:p.Lm l=true)(h:VR E' w (Jl.mk id l u) (p.mk id y) v):VR E2 w vw2 (p.mk Jf y) v:=by
 cases p with
 |v t=>exact h
 |sl s q=>
  simp only[AP.Lm]at Bq;subst Bq;simp only[AP.mk,VR,ATK]at h⊢;rw[r.S];omega
 |nil=>exact h
 |ref i=>
  simp only[AP.Lm,AMi]at Bq;obtain⟨p,hp⟩:∃p,l[i]? =some p:=⟨_,ALR Bq⟩;obtain⟨z,z1,z2⟩:=r.bx i p hp;simp only[AP.mk,VR,id]at h⊢;refine⟨h.1,?_⟩;have h2:=h.2;rw[z1]at h2;rw[z2];cases p with
  |mem q=>trivial
  |gone=>trivial
  |sl d q=>
   have hid:=(r.ids i (by simp[alive,hp])).2;grind[BP.mk]
 |ptr i j=>
  simp only[AP.Lm]at Bq;obtain⟨p,hp,hg⟩:=sP Bq;obtain⟨z,z1,z2⟩:=r.bx i p hp;refine⟨(AMG.1 z2).1,?_⟩;rw[(r.ids i Bq).1];exact h.2
 |mr q=>simp[AP.Lm]at Bq
 |j0 i sz=>simp[AP.Lm]at Bq
 |qv f rs=>simp[AP.Lm]at Bq
 |fn f KZ=>
  simp only[AP.Lm,ATg]at Bq;obtain⟨h1,h2⟩:=h;refine⟨fun b hb=> ?_,?_⟩
  ·obtain⟨i,hi,rfl⟩:=ATd.1 hb
   obtain⟨p,hp,_⟩:=sP (Bq i hi);obtain⟨z,_,z2⟩:=r.bx i p hp;grind
  ·rw[h2,ATx]
   congr 2
   rw[ATx];apply ATR;intro i hi;simp only[Function.comp,id,(r.ids i (Bq i hi)).1]
 |any=>trivial
theorem nh:∀{q:List AP} {y:Xs.V q} {vs:List Value},q.all (AP.Lm l)=true→iy E' w (Jl.mk id l u) (Xs.mk id q y) vs→iy E2 w vw2 (Xs.mk Jf q y) vs
 |[],_,[],_,_=>trivial
 |[],_,_::_,_,h=>h.elim
 |p::q,y,[],_,h=>h.elim
 |p::q,y,v::vs,Bq,h=>by
  simp only[ATl,AMC]at Bq;exact⟨zZ r Bq.1 h.1,nh Bq.2 h.2⟩
theorem te:∀{q:List (AP ⊕ List AP)} {y:X2.V q} {vs:List Value},(q.all fun| .inl p=>p.Lm l| .inr q=>q.all (AP.Lm l))=true→Ca (TR E' w (Jl.mk id l u)) (X2.mk id q y) vs→Ca (TR E2 w vw2) (X2.mk Jf q y) vs
 |[],_,[],_,_=>trivial
 |[],_,_::_,_,h=>h.elim
 | .inl p::q,y,[],_,h=>h.elim
 | .inr p::q,y,[],_,h=>h.elim
 | .inl p::q,y,v::vs,Bq,h=>by
  simp only[ATl,AMC]at Bq;exact⟨zZ r Bq.1 h.1,te Bq.2 h.2⟩
 | .inr p::q,y,v::vs,Bq,h=>by
  simp only[ATl,AMC]at Bq;obtain⟨us,e,hus⟩:=h.1;exact⟨⟨us,e,nh r Bq.1 hus⟩,te Bq.2 h.2⟩
theorem AN7{p:XP}{y:p.V}{v:Value}(Bq:p.Lm l=true)(h:XR E' w (Jl.mk id l u) (p.mk id y) v):XR E2 w vw2 (p.mk Jf y) v:=by
 cases p with
 |c p=>exact zZ r Bq h
 |agg q=>
  obtain⟨vs,e,VO⟩:=h;exact⟨vs,e,nh r Bq VO⟩
 |row q=>simp[XP.Lm]at Bq
 |Me q=>
  obtain⟨vs,e,VO⟩:=h;exact⟨vs,e,te r Bq VO⟩
theorem ANZ{i:Nat}{p:BP}{y:p.V}{F:ABJ}(hi:l[i]? =some p)(Bq:p.Lm l=true)(h:py E' w (Jl.mk id l u) i (p.mk id y) F):py E2 w vw2 (Jf i) (p.mk Jf y) F:=by
 cases p with
 |mem q=>
  obtain⟨h1,arr,ty,fr,h2,h3,h4⟩:=h;have hid:=(r.ids i (by simp[alive,hi])).1;exact⟨by simp_all,arr,ty,fr,by simp_all,h3,nh r Bq h4⟩
 |sl d q=>
  obtain⟨h1,h2⟩:=h;refine⟨h1,?_⟩;rw[(r.ids i (by simp[alive,hi])).2,r.S];omega
 |gone=>exact h
end
end Go.Fw
end
section
namespace Go.Fw
theorem ug{s:BZ}{N:Nat}{m0 m:Pc}{tm:List XV}{bx:List Bx}{x:s.V}(e:s.fit N m0 tm bx=some (x,m)):∀(k:Nat) p,s.Gz[k]? =some p→p≠ .gone→ ∃b B,m[k]? =some (some b)∧bx[b]? =some B∧B≠ .dead∧
  ∀d r,p= .sl d r→ ∃d' rows,B= .sl d' r rows:=by
 simp only[BZ.fit,AMR,AL9]at e;obtain⟨m1,e1,m2,e2,a,e3,c,e4,e5⟩:=e;cases e5;obtain⟨q1,q2⟩:=Ro (Jf:=id) e4;grind
theorem AFZ(n:Nat):qE (List.replicate n none):=fun i j b h=>by
 grind
theorem yb{w:World}{B B':Nat→Prop}{w':World}{r:Ty}{v:Value}{x y:List r.D}(h:Rd w B (.sl r) [v] x)(h':Rd w' B' (.sl r) [v] y):y.length=x.length:=by
 simp only[Rd]at h h';grind
section
variable{Y:Type} {P:Program} {E:Env} {σ:St} {a:Act} {w:World} {k:K Y} {y:Y}
theorem rv{E' E2:Env}{l:List BP}{u:Jl.V l}{vw2:List Bx}{Jf:Nat→Nat}(r:uq E' E2 l u vw2 Jf):∀{sl:List (Nat×XP)} {z:G5.V sl} {x:Value},
  kD l sl=true→OB E' w (Jl.mk id l u) id sl z [x]→XR E2 w vw2 (eH sl z Jf) x
 |[(0,p)],z,x,Bq,h=>by
  obtain⟨⟨v,hv,hx⟩,_⟩:=h;simp at hv;subst hv;exact AN7 r Bq hx
 |[],_,_,Bq,_=>by simp[kD]at Bq
 |(_+1,_)::_,_,_,Bq,_=>by simp[kD]at Bq
 |(0,_)::_::_,_,_,Bq,_=>by simp[kD]at Bq
def eL(c:QN)(xs:List XV)(σ:St):ABJ:=
 match c.ins.fit σ.bx.length c.ins.m0 xs (c.ins.opens σ.bx)with
 |some (_,m)=>m.filterMap id
 |none=>[]
theorem tJ(h:Rel E σ a w)(s:BZ):∃E',Rel E' { σ with bx:=s.opens σ.bx } a w∧RJ [] E σ.bx w E' (s.opens σ.bx) w∧(∀(i:Nat) d r,s.Gz[i]? =some (.sl d r)→E'.H3 (σ.bx.length+i)= .slice none 0 0)∧
  (∀x v,XR E w σ.bx x v→XR E' w (s.opens σ.bx) x v):=by
 let E':Env:={ E with H3:=fun k=>if k<σ.bx.length then E.H3 k else .slice none 0 0 }
 have hlen:σ.bx.length≤(s.opens σ.bx).length:=by simp[BZ.opens]
 have hold:∀b,b<σ.bx.length→(s.opens σ.bx)[b]? =σ.bx[b]?:=fun b hb=>by grind[BZ.opens,List.getElem?_append_left]
 have mj:∀b,b<σ.bx.length→E'.H3 b=E.H3 b:=fun b hb=>by grind
 have keep:Sh E w σ.bx E' w (s.opens σ.bx):=
  ⟨hlen,fun _ _=>rfl,fun _ h=>h,fun _ h=>h,h.bx.st,fun _ _=>rfl,fun b d r rows hb e=>⟨d,rows,by simp_all,fun p hp q ys hg=>⟨hp,⟨ys,hg,rfl⟩,fun hh he=>by simp_all⟩⟩⟩
 obtain⟨Fs,⟨f1,f2⟩,f3⟩:=h.bx;refine⟨E',⟨h.NO,h.tm.imp fun _ _ hx=>PK keep hx,?_⟩,?_,fun i d r hi=>by grind,fun x v hx=>PK keep hx⟩
 ·refine⟨Fs++List.replicate s.Gz.length [],⟨by simp[BZ.opens,f1],fun n B F hB hF=> ?_⟩,?_⟩
  ·by_cases hn:n<σ.bx.length
   ·rw[hold n hn]at hB
    rw[AND (by omega)]at hF;have:=f2 n B F hB hF;cases B with
    |mem cs=>
     obtain⟨rfl,arr,ty,fr,a1,a2,a3⟩:=this;exact⟨rfl,arr,ty,fr,a1,a2,a3.imp fun _ _ hv=>GM keep hv⟩
    |sl d r rows=>exact⟨this.1,by rw[mj n hn];exact this.2⟩
    |dead=>exact this
   ·rw[ANg (by omega)]at hF
    have hF':F=[]:=ATo (ANe hF);subst hF';simp only[BZ.opens]at hB;rw[ANg (by omega),AQt,AL9]at hB;obtain⟨p,_,rfl⟩:=hB;have hh:E'.H3 n= .slice none 0 0:=by grind
    cases p with
    |mem q=>rfl
    |gone=>rfl
    |sl d r=>exact⟨by omega,by rw[hh];exact n_⟩
  ·have:(Fs++List.replicate s.Gz.length []).flatten=Fs.flatten:=by simp
   rw[this];exact⟨f3.nodup,f3.free,f3.lt,f3.st,f3.cf⟩
 ·refine⟨⟨fun _ h=>h,fun _ h=>h,fun _ h=> .inl h,fun _ h=> .inl h,fun _ _=>rfl,rfl,rfl,rfl,AQE _⟩,hlen,fun b hb=>⟨rfl,mj b hb⟩,fun b hb=> ?_,fun n B B' _ hB TV hd=> ?_⟩
  ·grind
  ·rw[hold n (AMG.1 hB).1,hB]at TV
   cases TV;exact⟨U5.refl hd,fun _ _=>rfl⟩
theorem RJ.after{t:ABJ}{E E' E'':Env}{bx QQ AU0:List Bx}{w w':World}(h:RJ [] E bx w E' QQ w)(hb:∀b,b<bx.length→QQ[b]? =bx[b]?)(k:RJ t E' QQ w E'' AU0 w'):RJ t E bx w E'' AU0 w':=
 ⟨h.base.trans k.base,AQ4 h.len k.len,fun b Lu=>⟨(k.ids b (ATM Lu h.len)).1.trans (h.ids b Lu).1,(k.ids b (ATM Lu h.len)).2.trans (h.ids b Lu).2⟩,fun b hd=>k.dead b (h.dead b hd),fun n B B' hn hB TV hd=>by
  have Lu:=(AMG.1 hB).1;obtain⟨k1,k2⟩:=k.frame n B B' hn (by simp_all) TV hd;refine⟨k1,fun c hc=>k2 c ?_⟩;cases B with
  |mem cs=>simp only[xy]at hc⊢;rw[(h.ids n Lu).1];omega
  |sl d r rows=>simp only[xy]at hc⊢;rw[(h.ids n Lu).2];omega
  |dead=>exact hc⟩
def AMc(c:QN)(N:Nat)(xs:List XV)(σ:St)(k:K Y):Option Y:=
 match c.ins.fit N c.ins.m0 xs σ.bx with
 |some (v,m)=>(c.g v).bind fun u=>
  let Jf:=YW m σ.bx.length
  let σ1:=σ.ZR m
  k (eH c.outs.D3 u.1 Jf) { σ1 with bx:=Zt Jf 0 c.outs.Gz u.2 (Cz σ1.bx m) }
 |none=>none
def zK(c:QN)(N:Nat)(xs:List XV)(σ:St):ABJ:=
 match c.ins.fit N c.ins.m0 xs σ.bx with
 |some (_,m)=>m.filterMap id
 |none=>[]
theorem yM{f:Nat}{c:QN}(hc:W9 P f c)(h:Rel E σ a w){N0:Nat}(uc:∀(i:Nat) d r,c.ins.Gz[i]? =some (.sl d r)→E.H3 (N0+i)= .slice none 0 0){xs:List XV}{vs:List Value}(hxs:Ca (XR E w σ.bx) xs vs)(hlen:xs.length=c.ins.D3.length)(e:AMc c N0 xs σ k=some y):
  Calls P f vs.toArray w fun e w' => ∃x E' xv σ',e= .returned x∧Rel E' σ' a w'∧XR E' w' σ'.bx xv x∧RJ (zK c N0 xs σ) E σ.bx w E' σ'.bx w'∧σ'.tm.length=σ.tm.length∧k xv σ' =some y:=by
 obtain⟨Bq,_,r8⟩:=hc;simp only[QN.ok,AMC]at Bq;obtain⟨⟨hk,hslot⟩,hbo⟩:=Bq;obtain⟨hklen,hk⟩:=XB hk;unfold AMc at e;split at e
 case h_2=>cases e
 rename_i v m da;simp only[AMR]at e;obtain⟨u,hg,e⟩:=e;obtain⟨_,E1,hf⟩:=lP h.bx hxs uc (by simp[BZ.m0]) (AFZ _) da;have PN:vs.toArray.size=c.ins.D3.length:=by grind[Ca.len]
 refine(r8 E1 w v vs.toArray u PN hf.boxes (by simpa using hf.D3) hg).mono fun e' w' hR=> ?_
 obtain⟨x,E',rfl,base,⟨Fs,hFs1,hFs2⟩,D3,ADk⟩:=hR;simp only[AM3]at hFs2;obtain⟨Fk,k1,k2,k3,k4⟩:=hf.rest;have st:=h.bx.st;have cf:=h.bx.cf;have hM:m.length=c.ins.Gz.length:=hf.len;have all:∀i,i<m.length→ ∃b B,m[i]? =some (some b)∧σ.bx[b]? =some B∧B≠ .dead∧ ∀d r,c.ins.Gz[i]? =some (.sl d r)→ ∃d' rows,B= .sl d' r rows:=by
  intro i hi;have hp:c.ins.Gz[i]? =some (c.ins.Gz[i]'(by omega)):=ALR _;grind[ug,Option.some.inj]
 let N:=σ.bx.length
 let M:=m.length
 have AI1:∀i b,m[i]? =some (some b)→YW m N i=b:=fun i b h=>by simp[YW,h]
 have AT2:∀i,M≤i→YW m N i=N+(i-M):=fun i hi=>by
  grind[List.getElem?_eq_none,YW]
 have ro:wA (YW m N) M N:=⟨fun i hi=>by
   grind,AT2,fun i j hi hj e=>by
   obtain⟨b,B,h1,h2,_⟩:=all i hi;obtain⟨b',B',h1',h2',_⟩:=all j hj;rw[AI1 i b h1,AI1 j b' h1']at e;subst e;exact hf.inj i j b h1 h1'⟩
 let E2:Env:={
   H0:=fun n=>if n<N then E.H0 n else E'.H0 (M+(n-N))
   H3:=fun n=>if n<N then E.H3 n else E'.H3 (M+(n-N))
   T:=fun c=>E.T c∨E'.S c
   S:=E'.S }
 have hS:∀c,E.S c→E'.S c:=fun d hd=>base.S d (hf.S d hd)
 have hSk:∀d∈Fk.flatten,¬E'.S d:=fun d hd hs=>by
  obtain⟨_,n2,_,n4⟩:=k3 d hd;exact(base.Sof d hs).elim n2 (fun h=>h n4)
 have AEQ:∀d,E.T d→w'.heap[d]? =w.heap[d]?:=fun d hd=>base.heap d (hf.T d hd)
 have AWI:∀d∈Fk.flatten,w'.heap[d]? =w.heap[d]?:=fun d hd=>base.heap d (k3 d hd).2.2.2
 have AXI:d_ E w E2 w':=⟨fun d hd=> .inl hd,hS,fun d hd=>hd,fun d hd=>by
   rcases base.Sof d hd with h|h
   ·exact hf.Sof d h
   ·exact .inr fun ht=>h (hf.T d ht),AEQ,base.os,base.tape,base.output,base.size⟩
 let vw':=Jl.mk id c.outs.Gz u.2
 let Bs:=Jl.mk (YW m N) c.outs.Gz u.2
 let bk:=(Cz σ.bx m).map (Bx.map (Gq m))
 have hbk:Cz (σ.ZR m).bx m=bk:=by rw[ACe,dE]
 have AeV:bk.length=N:=by simp[bk,KF,N]
 let aU:=LN (YW m N) 0 Bs bk
 have AfC:Zt (YW m N) 0 c.outs.Gz u.2 (Cz (σ.ZR m).bx m)=aU:=by rw[l7,hbk]
 obtain⟨s1,s2,s3⟩:=fJ ro (l:=Bs) (i:=0) (bx:=bk) (by omega);have AfM:Bs.length=c.outs.Gz.length:=TB _;have oQ:σ.bx.length≤aU.length:=by
  grind
 have rn:uq E' E2 c.outs.Gz u.2 aU (YW m N):=by
  refine⟨fun i hi=> ?_,fun i p hp=> ?_,rfl⟩
  ·by_cases him:i<M
   ·obtain⟨b,B,h1,h2,_⟩:=all i him
    have hbl:b<N:=(AMG.1 h2).1;have g1:=hf.ids i b h1;grind
   grind
  ·obtain⟨z,z1,z2⟩:=bL (YW m N) (u:=u.2) hp
   grind
 have AFT:∀n,n<N→some n∉m→aU[n]? =bk[n]?:=fun n hn hm=>by
  grind
 have keep:Sh E w σ.bx E2 w' (Cz aU m):=by
  refine⟨by rw[KF];omega,fun b hb=>by grind,fun d hd=> .inl hd,hS,st,AEQ,fun b d r rows hb hq=> ?_⟩;have hbm:some b∉m:=fun hm=>by grind[V2]
  rw[Qq hbm,AFT b hb hbm]at hq;have hq1:=AEr hq;have hq2:σ.bx[b]? =some (.sl d r rows):=by
   rcases Ri (FM.refl σ.bx) b _ hq1 with e|e
   all_goals grind
  refine⟨d,rows,hq2,fun p hp q ys hgp=>⟨hp,⟨ys,hgp,rfl⟩,fun h' hh=> ?_⟩⟩;have hFk:Fk[b]? =some (Fk[b]'(by rw[k1.1,KF];omega)):=ALR _;obtain⟨_,ho⟩:=k1.2 b _ _ hq1 hFk;have e2:E2.H3 b=E.H3 b:=by grind
  grind[vN,List.mem_flatten,List.mem_of_getElem?]
 have vr:∀x v,VR E w σ.bx x v→VR E2 w' aU (Gq m x) v:=fun x v hx=>by
  refine AC5 keep (fun b d' r C1 hbm hq=> ?_) oQ hx;obtain⟨i,hi,him⟩:=AQQ hbm;have APJ:m[i]? =some (some b):=by grind
  obtain⟨b',B,h1,h2,h3,h4⟩:=all i hi;rw[APJ]at h1;cases h1;have hio:i<c.outs.Gz.length:=by omega
  have hp:c.outs.Gz[i]? =some c.outs.Gz[i]:=ALR hio;obtain⟨z,z1,z2⟩:=rn.bx i _ hp;rw[AI1 i b APJ,hq]at z2;have Aax:c.ins.Gz[i]? =some (c.ins.Gz[i]'(by omega)):=ALR _
  generalize c.outs.Gz[i]=po at z hp z1 z2
  cases po with
  |mem q=>simp[BP.mk]at z2
  |gone=>simp[BP.mk]at z2
  |sl d0 q=>
   simp only[BP.mk,ALt,Bx.sl.injEq]at z2;obtain⟨rfl,rfl,z2⟩:=z2;obtain rfl:=AQj z2;obtain⟨d1,hpo⟩:=(hk i _ Aax).2 _ _ hp;obtain⟨d2,rows,rfl⟩:=h4 d1 r (by simp_all);have hbl:b<N:=(AMG.1 h2).1;have eh:E2.H3 b=E.H3 b:=by grind
   refine⟨d2,rows,h2,?_,eh⟩;obtain⟨F0,hR0,_⟩:=h.bx.take h2;have hFi:Fs[i]? =some (Fs[i]'(by rw[hFs1.1,TB];omega)):=ALR _;obtain⟨_,xG⟩:=hFs1.2 i _ _ z1 hFi;have hal:alive c.outs.Gz i=true:=by simp[alive,hp]
   rw[(ADk i (by omega) hal).2,(hf.ids i b APJ).2]at xG;exact yb (Xh hR0.2) (Xh xG)
 have gP:c.outs.Gz.all (BP.Lm c.outs.Gz)=true:=hbo;have rel:Rel E2 { tm:=(σ.ZR m).tm,bx:=aU } a w':=by
  refine⟨h.NO,?_,?_⟩
  ·rw[sH]
   exact Ca.K4 _ (fun x v hx=>ACG vr hx) h.tm
  ·refine dO ro (Fs:=Fs) (by omega) (fun i _ hi=> ?_) (by rw[hFs1.1,TB];omega) (fun j B F hB hF=> ?_) ?_
   ·obtain⟨b,B,h1,h2,_⟩:=all i hi
    rw[AI1 i b h1];have hbl:b<(Cz σ.bx m).length:=by grind
    have hd:(Cz σ.bx m)[b]? =some .dead:=by
     rw[ALR hbl];exact congrArg some (V2 (ANe h1) (ALR hbl))
    simp only[bk];rw[AQt,hd];rfl
   ·rw[ATf]
    have qq:=(AMG.1 hB).1;have hp:c.outs.Gz[j]? =some (c.outs.Gz[j]'(by omega)):=ALR _;obtain⟨z,z1,z2⟩:=bL (YW m N) (u:=u.2) hp;have TV:Bs[j]? =_:=z2;rw[hB]at TV;cases TV;exact ANZ rn hp (ATg.1 gP _ (AMk _)) (hFs1.2 j _ _ z1 hF)
   ·
    refine⟨Fk,⟨by simp[bk,k1.1],fun n B F hn hF=> ?_⟩,?_⟩
    ·simp only[bk]at hn
     rw[AQt,AL9]at hn;obtain⟨B0,hn,rfl⟩:=hn;have wC:n<N:=by grind
     have h3:=k1.2 n B0 F hn hF;have hFw:∀d∈F,w'.heap[d]? =w.heap[d]?:=fun d hd=>AWI d (ASW.2 ⟨F,ANe hF,hd⟩)
     have eb:E2.H0 n=E.H0 n:=by grind
     have eh:E2.H3 n=E.H3 n:=by grind
     cases B0 with
     |mem cs=>
      obtain⟨rfl,arr,ty,fr,ha,hu,hv⟩:=h3;exact⟨by rw[eb],arr,ty,fr,by simp_all,hu,Ca.K4 _ vr hv⟩
     |sl d r rows=>
      refine⟨h3.1,?_⟩;rw[eh];exact Eb hS (fun d hd=>AEQ d (st d hd)) hFw h3.2
     |dead=>exact h3
    ·refine⟨AM6.2 ⟨k2,hFs2.nodup,fun x hx z hz he=> ?_⟩,fun d hd ht=> ?_,fun d hd=> ?_,fun d hd=> .inr hd,fun d hd=> ?_⟩
     ·subst he
      exact hFs2.free x hz (base.T x (k3 x hx).2.2.2)
     ·rcases AOl.1 hd with hd|hd
      ·grind
      ·rcases ht with ht|ht
       ·exact hFs2.free d hd (base.T d (hf.T d ht))
       ·exact hFs2.free d hd (hFs2.st d ht)
     ·rcases AOl.1 hd with hd|hd
      ·grind
      ·exact hFs2.lt d hd
     ·rcases hd with hd|hd
      ·grind
      ·exact hFs2.cf d (hFs2.st d hd)
 have AXT:RJ (zK c N0 xs σ) E σ.bx w E2 aU w':=by
  refine⟨AXI,oQ,fun n hn=>⟨by grind,by grind⟩,fun n hn=> ?_,fun n B B' hnt hB TV qt=> ?_⟩
  rotate_left 1
  ·have wC:=(AMG.1 hB).1
   have sj:some n∉m:=fun hm=>hnt (by
    simp only[zK,da,List.mem_filterMap];simp_all)
   rw[AFT n wC sj]at TV;simp only[bk]at TV;have hkn:(Cz σ.bx m)[n]? =some B:=by grind[Qq]
   rw[AQt,hkn]at TV;have TV:Bx.map (Gq m) B=B':=by simp_all
   have hFk:Fk[n]? =some (Fk[n]'(by rw[k1.1,KF];omega)):=ALR _;refine⟨?_,fun d hd=> ?_⟩
   ·subst TV
    cases B with
    |mem cs=>trivial
    |sl d r rows=>rfl
    |dead=>exact absurd rfl qt
   ·rcases eU (k1.2 n B _ hkn hFk) hd with hs|hs
    all_goals grind[List.mem_flatten,List.mem_of_getElem?]
  have wC:=(AMG.1 hn).1;have sj:some n∉m:=fun hm=>by
   obtain⟨i,hi,him⟩:=AQQ hm;grind
  rw[AFT n wC sj];simp only[bk];rw[AQt,Qq sj,hn];rfl
 refine⟨x,E2,eH c.outs.D3 u.1 (YW m N),{ tm:=(σ.ZR m).tm,bx:=aU },rfl,rel,rv rn hslot D3,AXT,by simp[sH],?_⟩;grind
theorem AB_{f:Nat}{c:QN}(hc:W9 P f c)(h:Rel E σ a w){xs:List XV}{vs:List Value}(hxs:Ca (XR E w σ.bx) xs vs)(e:mQ c xs σ k=some y):
  Calls P f vs.toArray w fun e w' => ∃x E' xv σ',e= .returned x∧Rel E' σ' a w'∧XR E' w' σ'.bx xv x∧RJ (eL c xs σ) E σ.bx w E' σ'.bx w'∧σ'.tm.length=σ.tm.length∧k xv σ' =some y:=by
 unfold mQ at e;split at e
 case isFalse=>cases e
 rename_i hlen;obtain⟨E',h1,h2,h3,h4⟩:=tJ h c.ins;have hold:∀b,b<σ.bx.length→(c.ins.opens σ.bx)[b]? =σ.bx[b]?:=fun b hb=>by grind[BZ.opens,List.getElem?_append_left]
 refine(yM (N0:=σ.bx.length) hc h1 h3 (hxs.imp fun x v hx=>h4 x v hx) hlen (k:=k) (y:=y) e).mono fun e' w' hR=> ?_
 obtain⟨x,E2,xv,σ',q0,q1,q2,q3,q4,q5⟩:=hR;exact⟨x,E2,xv,σ',q0,q1,q2,h2.after hold q3,q4,q5⟩
end
end Go.Fw
end
section
namespace Go.Fw
def gp(P:Program)(Γ:Nat→Option QN):Prop:= ∀f c,Γ f=some c→W9 P f c
theorem rV{Γ:Nat→Option QN}{σ:St}{o:Op}(h:o3 o=false):KS (fun _=>none) σ o=KS Γ σ o:=by
 cases o with
 |call c=>
  obtain⟨callee,args,q8⟩:=c;cases callee with
  |value f=>simp[o3]at h
  |invoke _ _=>rfl
  |builtin b=>cases b<;>rfl
 |_=>rfl
theorem AV6{Y:Type}{P:Program}{Γ:Nat→Option QN}{o:Oper}{E:Env}{σ:St}{a:Act}{w:World}{k:K Y}{y:Y}{g:Nat}{c:QN}(hsc:W9 P g c)(h:Rel E σ a w){f:Operand}{args:Array Operand}{q8:Array TypeId}
  (ho:o.op= .call { callee:= .value f,args:=args,argTypes:=q8 }) {ps:List Value} (Z7:a.eval f= .func (.func g) #[] ps.toArray) {xs:List XV} (IQ:Ca (XR E w σ.bx) xs (args.toList.map a.eval++ps)) (ht:KS Γ σ o.op=eL c xs σ)
  (e:mQ c xs σ k=some y) {next:Act→World→Prop} {Q:Exit→Act→World→Prop}
  (hn:∀v w' E' x σ',Rel E' σ' a w'→XR E' w' σ'.bx x v→RJ (KS Γ σ o.op) E σ.bx w E' σ'.bx w'→σ'.tm.length=σ.tm.length→k x σ' =some y→next (a.put o.dst v) w'):o.wp P a w next Q:=by
 have r8:=AB_ hsc h IQ e;have lM:(execOp a.eval o).run P w= .ok (.enter g (args.toList.map a.eval++ps).toArray) w:=by
  have e2:(args.map a.eval)++ps.toArray=(args.toList.map a.eval++ps).toArray:=by
   simp_all
  simp only[execOp,ho,resolve,Z7,Deferred.ofValue,Sem.run_bind,Sem.run_pure,Result.andThen_ok,invoke,Array.empty_append,e2,hsc.2.1]
 unfold Oper.wp;rw[lM];simp only[Oper.upon];refine r8.mono fun e w' hR=> ?_
 grind
section
variable{Y:Type} {P:Program} {T:Jp} (hT:Em P T) {Γ:Nat→Option QN} (hΓ:gp P Γ) {o:Oper} {E:Env} {σ:St} {a:Act} {w:World} {k:K Y} {y:Y}
include hT hΓ
theorem AAU(h:Rel E σ a w)(e:Wz T Γ o σ k=some y){next:Act→World→Prop}{Q:Exit→Act→World→Prop}
  (hn:∀v w' E' x σ',Rel E' σ' a w'→XR E' w' σ'.bx x v→RJ (KS Γ σ o.op) E σ.bx w E' σ'.bx w'→σ'.tm.length=σ.tm.length→k x σ' =some y→next (a.put o.dst v) w'):o.wp P a w next Q:=by
 by_cases hc:o3 o.op=false
 ·obtain⟨v,w',E',x,σ',hr,h1,h2,h3,h4,h5⟩:=AC3 hT h e hc
  rw[rV hc]at h3;unfold Oper.wp;rcases hr with hr|⟨hr,rfl⟩
  ·rw[hr]
   exact hn v w' E' x σ' h1 h2 h3 h4 h5
  ·rw[hr]
   exact hn _ w' E' x σ' h1 h2 h3 h4 h5
 ·
  unfold o3 at hc;split at hc
  case h_2=>simp_all
  rename_i f args q8 ho;unfold Wz at e;rw[ho]at e;dsimp only at e;split at e
  case h_3=>cases e
  ·rename_i g KZ hf
   split at e
   case h_2=>cases e
   rename_i c hg;have hv:=h.ev f;rw[hf]at hv;obtain⟨bf,Z7⟩:(∀b∈KZ,b<σ.bx.length)∧a.eval f= .func (.func g) #[] (KZ.map fun b=>Value.pointer (some ⟨E.H0 b,0,none⟩)).toArray:=hv;have hsc:=hΓ g c hg;have IQ:Ca (XR E w σ.bx) (args.toList.map σ.ev++KZ.map fun b=> .c (.IL b 0)) (args.toList.map a.eval++KZ.map fun b=>Value.pointer (some ⟨E.H0 b,0,none⟩)):=by
    refine Ca.append (evs h args.toList) ?_
    clear Z7 hf e
    induction KZ with
    |nil=>trivial
    |cons b l ih=>exact⟨⟨bf b (by simp),rfl⟩,ih (fun c hc=>bf c (by simp[hc]))⟩
   grind[KS,eL,AV6]
  ·rename_i g rows hf
   split at e
   case h_2=>cases e
   rename_i c hg;have hv:=h.ev f;rw[hf]at hv;obtain⟨ps,Z7,bf⟩:∃ps:List Value,a.eval f= .func (.func g) #[] ps.toArray∧Ca (RA E w) rows ps:=hv;have hsc:=hΓ g c hg;have IQ:Ca (XR E w σ.bx) (args.toList.map σ.ev++rows.map fun q=> .c (.PM false q.1 q.2 0)) (args.toList.map a.eval++ps):=by
    refine Ca.append (evs h args.toList) ?_
    clear Z7 hf e
    induction rows generalizing ps with
    |nil=>
     cases ps with
     |nil=>trivial
     |cons _ _=>exact bf.elim
    |cons q l ih=>
     cases ps with
     |nil=>exact bf.elim
     |cons p ps=>
      obtain⟨⟨bb,o,cs,h1,h2,h3,h4,h5⟩,bf⟩:=bf;exact⟨⟨bb,o,cs,h1,h2,h3,h4,h5⟩,ih ps bf⟩
   grind[KS,eL,AV6]
end
theorem Rel.tmp{E:Env}{σ:St}{a:Act}{w:World}(h:Rel E σ a w){t:Nat}{x:XV}(e:σ.tm[t]? =some x):∃v,a.tmps[t]? =some v∧XR E w σ.bx x v:=by
 obtain⟨v,h1,h2⟩:=h.tm.get e;simp_all
def AS3:Value→Option Bool
 | .bool b=>some b
 |_=>none
theorem ba{ops:Array Oper}{tmps:Array Value}{j t:Nat}(e:(ops[j]?).bind (·.dst)=some t){v:Value}(hv:tmps[t]? =some v):yielded ops tmps j=AS3 v:=by
 simp only[yielded,e,AM0,hv];cases v<;>rfl
theorem qF{E:Env}{w:World}{vw:List Bx}:XR E w vw (.Me []) undef:=⟨#[],rfl,trivial⟩
structure Ok (E0:Env) (w0:World) (N nb:Nat) (E:Env) (σ:St) (a:Act) (w:World):Prop where
 rel:Rel E σ a w
 base:d_ E0 w0 E w
 tm:σ.tm.length=N
 qu:nb≤σ.bx.length
 ids:∀i,i<nb→σ.bx[i]?≠some .dead→E.H0 i=E0.H0 i∧E.H3 i=E0.H3 i
theorem Ok.next{E0 E E':Env}{w0 w w':World}{N nb:Nat}{σ σ':St}{a a':Act}{t:ABJ}(h:Ok E0 w0 N nb E σ a w)(hr:Rel E' σ' a' w')(hw:RJ t E σ.bx w E' σ'.bx w')(hl:σ'.tm.length=σ.tm.length):Ok E0 w0 N nb E' σ' a' w':=
 ⟨hr,h.base.trans hw.base,hl.trans h.tm,AQ4 h.qu hw.len,fun i hi hd=>by
  have h1:=hw.ids i (ATM hi h.qu);have h2:=h.ids i hi (fun hh=>hd (hw.dead i hh));simp_all⟩
theorem Ok.put{E0 E:Env}{w0 w:World}{N nb:Nat}{σ:St}{a:Act}(h:Ok E0 w0 N nb E σ a w)(dst:Option Tmp){x:XV}{v:Value}(hx:XR E w σ.bx x v):Ok E0 w0 N nb E (σ.put dst x) (a.put dst v) w:=by
 have e1:(σ.put dst x).bx=σ.bx:=by cases dst<;>rfl
 have e2:(σ.put dst x).tm.length=σ.tm.length:=by cases dst<;>simp[St.put]
 refine⟨h.rel.put dst hx,h.base,e2.trans h.tm,by rw[e1];exact h.qu,fun i hi hd=>h.ids i hi (by simp_all)⟩
theorem Ok.same{E0 E:Env}{w0 w:World}{N nb:Nat}{σ σ1:St}{a:Act}(h:Ok E0 w0 N nb E σ a w)(hr:Rel E σ1 a w)(hb:σ1.bx=σ.bx)(hl:σ1.tm.length=σ.tm.length):Ok E0 w0 N nb E σ1 a w:=
 ⟨hr,h.base,hl.trans h.tm,by rw[hb];exact h.qu,fun i hi hd=>h.ids i hi (by simp_all)⟩
end Go.Fw
end
section
namespace Go.Fw
section
variable{Y:Type}
abbrev k0:K (XV×St):=fun x σ=>some (x,σ)
theorem ACN{op:BinOp}{κ:IntKind}{a b:Int}(k:AV→Option Y):fc op κ a b k=(fc op κ a b some).bind k:=by
 cases op<;>simp[fc]<;>split<;>rfl
theorem wc{op:BinOp}{κ:IntKind}{a b:Int}(k:AV→Option Y):Yy op κ a b k=(Yy op κ a b some).bind k:=by
 unfold Yy;grind
theorem ADD{op:BinOp}{a b:ACD}(k:AV→Option Y):iQ op a b k=(iQ op a b some).bind k:=by
 cases op<;>simp[iQ]<;>split<;>rfl
theorem nz{T:Jp}{t:Nat}{op:BinOp}{a b:XV}(k:AV→Option Y):wN T t op a b k=(wN T t op a b some).bind k:=by
 unfold wN;grind[wc,ACN,ADD]
theorem uf{op:UnOp}{a:XV}(k:AV→Option Y):unX op a k=(unX op a some).bind k:=by
 unfold unX;grind
theorem aS{g:Bool}{a b:XV}(k:AV→Option Y):tc g a b k=(tc g a b some).bind k:=by
 unfold tc;grind
theorem LM{len:Nat}{lo hi:Option XV}(k:Nat→Nat→Option Y):N1 len lo hi k=(N1 len lo hi fun l h=>some (l,h)).bind fun p=>k p.1 p.2:=by
 unfold N1;grind
theorem z_{T:Jp}{t:Nat}{σ:St}{x:XV}{lo hi:Option XV}(k:K Y):kE T t σ x lo hi k=(kE T t σ x lo hi k0).bind fun p=>k p.1 p.2:=by
 unfold kE;split
 ·split
  ·rw[LM,LM (Y:=XV×St),AT0];rfl
  ·rfl
 ·split
  ·rw[LM,LM (Y:=XV×St),AT0];rfl
  ·rfl
 ·split
  ·split
   ·rw[LM,LM (Y:=XV×St),AT0];rfl
   ·rfl
  ·rfl
 ·rfl
theorem zQ{T:Jp}{t:Nat}{σ:St}{x i:XV}(k:K Y):ky σ T t x i k=(ky σ T t x i k0).bind fun p=>k p.1 p.2:=by
 unfold ky;grind
theorem rq{T:Jp}{t:Nat}{σ:St}{x i:XV}(k:K Y):WT T t σ x i k=(WT T t σ x i k0).bind fun p=>k p.1 p.2:=by
 unfold WT;grind
theorem ABj{T:Jp}{s d:Nat}{σ:St}{x:XV}(k:K Y):sX T s d σ x k=(sX T s d σ x k0).bind fun p=>k p.1 p.2:=by
 unfold sX;grind
theorem ACO{T:Jp}{t:Nat}{σ:St}{l c:XV}(k:K Y):su T t σ l c k=(su T t σ l c k0).bind fun p=>k p.1 p.2:=by
 grind[su]
theorem nU{T:Jp}{t n:Nat}{ps:List (Nat×XV)}{σ:St}(k:K Y):Q0 T t n ps σ k=(Q0 T t n ps σ k0).bind fun p=>k p.1 p.2:=by
 grind[Q0,Option.bind_assoc]
theorem vy{T:Jp}{ts:Array TypeId}{σ:St}{a x:XV}(k:K Y):eC T ts σ a x k=(eC T ts σ a x k0).bind fun p=>k p.1 p.2:=by
 unfold eC;split
 all_goals grind
theorem zz{T:Jp}{ts:Array TypeId}{σ:St}{x:XV}(k:K Y):lD T ts σ x k=(lD T ts σ x k0).bind fun p=>k p.1 p.2:=by
 unfold lD;grind
theorem ACx{c:QN}{xs:List XV}{σ:St}(k:K Y):mQ c xs σ k=(mQ c xs σ k0).bind fun p=>k p.1 p.2:=by
 grind[mQ,Option.bind_assoc]
theorem xE{σ:St}{x:XV}(k:K Y):bN σ x k=(bN σ x k0).bind fun p=>k p.1 p.2:=by
 unfold bN;grind
theorem ACK{T:Jp}{Γ:Nat→Option QN}{o:Oper}{σ:St}(k:K Y):Wz T Γ o σ k=(Wz T Γ o σ k0).bind fun p=>k p.1 p.2:=by
 unfold Wz;split
 ·rfl
 ·exact xE k
 ·split
  ·rename_i x _
   cases x<;>rfl
  ·rfl
 ·grind
 ·grind
 ·grind
 ·exact nU k
 ·grind
 ·grind
 ·grind
 ·rw[nz,nz (Y:=XV×St),AT0];rfl
 ·rw[uf,uf (Y:=XV×St),AT0];rfl
 ·exact ABj k
 ·grind
 ·exact ACO k
 ·exact z_ k
 ·grind
 ·grind
 ·exact zQ k
 ·exact rq k
 ·grind
 ·grind[ACx]
 ·grind
 ·grind[vy]
 ·grind[zz]
 ·split
  ·rw[aS,aS (Y:=XV×St),AT0];rfl
  ·rfl
 ·split
  ·rw[aS,aS (Y:=XV×St),AT0];rfl
  ·rfl
 ·rfl
theorem lW{I:Type}[Nonempty I]{T:Jp}{Γ:Nat→Option QN}{o:Oper}{σ:St}{k:I→K Y}{y:Y}(h:∀i,Wz T Γ o σ (k i)=some y):∃x σ',Wz T Γ o σ k0=some (x,σ')∧ ∀i,k i x σ' =some y:=by
 obtain⟨i0⟩:= ‹Nonempty I›;have h0:=h i0;grind[ACK,Option.bind_eq_some_iff]
end
end Go.Fw
end
section
namespace Go.Fw
def WF{α:Type}(P:Program)(s:Sem α):Prop:= ∀w v w1,s.run P w= .ok v w1→ ∀w',s.run P w' = .ok v w'
section
variable{α β:Type} {P:Program}
theorem WF.pure(x:α):WF P (Pure.pure x:Sem α):=fun w v w1 h w' =>by
 simp_all
theorem WF.bind{s:Sem α}{f:α→Sem β}(h:WF P s)(k:∀v,WF P (f v)):WF P (s >>= f):=fun w v w1 e w' =>by
 rw[Sem.run_bind]at e⊢;cases hs:s.run P w with
 |ok u w2=>
  rw[hs]at e;simp only[Result.andThen_ok]at e;rw[h w u w2 hs w'];simp only[Result.andThen_ok];exact k u w2 v w1 e w'
 |halt x w2=>
  simp_all
theorem WF.halt(x:Halt):WF P (.halt x:Sem α):=fun w v w1 e w' =>by simp_all
theorem WF.program:WF P program:=fun w v w1 e w' =>by
 simp_all
theorem WF.typeInfo(t:TypeId):WF P (typeInfo t):=WF.bind WF.program fun p=>by
 split
 ·exact WF.pure _
 ·exact WF.halt _
theorem WF.underlying(t:TypeId):WF P (underlying t):=WF.bind WF.program fun p=>by
 split
 ·exact WF.pure _
 ·exact WF.halt _
theorem WF.sizeOf(t:TypeId):WF P (Go.sizeOf t):=WF.bind (WF.typeInfo t) fun _=>WF.pure _
theorem WF.isAgg(t:TypeId):WF P (isAgg t):=WF.bind (WF.underlying t) fun d=>by
 grind[WF.pure]
theorem WF.zeroValue(t:TypeId):WF P (zeroValue t):=WF.bind (WF.typeInfo t) fun i=>by
 split
 ·exact WF.pure _
 ·exact WF.halt _
theorem WF.asIntOf(v:Value):WF P (asIntOf v):=by
 unfold Go.asIntOf;split
 ·exact WF.pure _
 ·exact WF.halt _
 ·exact WF.halt _
theorem WF.asBool(v:Value):WF P (asBool v):=by
 unfold Go.asBool;split
 ·exact WF.pure _
 ·exact WF.halt _
theorem WF.asAgg(v:Value):WF P (asAgg v):=by
 unfold Go.asAgg;split
 ·exact WF.pure _
 ·exact WF.halt _
theorem WF.sureAddr(v:Value):WF P (Instr.sureAddr v):=by
 unfold Instr.sureAddr;split
 ·exact WF.pure _
 ·exact WF.halt _
theorem WF.vu{s:Sem α}(h:∀w v w1,s.run P w≠ .ok v w1):WF P s:=fun w v w1 e=>absurd e (h w v w1)
theorem Xj{s:Sem α}{f:α→Sem β}(h:∀x w v w1,(f x).run P w≠ .ok v w1):∀w v w1,(s >>= f).run P w≠ .ok v w1:=fun w v w1 e=>by
 rw[Sem.run_bind]at e;cases hs:s.run P w with
 |ok u w2=>simp_all
 |halt x w2=>simp_all
theorem f_(x:Halt):∀w v w1,(.halt x:Sem α).run P w≠ .ok v w1:=fun w v w1 e=>by simp_all
theorem lh(e:RuntimeError):∀w v w1,(runtimePanic e:Sem α).run P w≠ .ok v w1:=by
 unfold runtimePanic;refine Xj fun p=> ?_
 dsimp only;split<;>first
  |exact f_ _
  |exact Xj fun _=>Xj fun _=>f_ _
  |exact Xj fun _=>f_ _
theorem WF.bounds(k:IntKind)(x y:Int)(c:BoundsCode):WF P (boundsPanic k x y c:Sem α):=WF.vu (by
 grind[boundsPanic,Xj,lh])
theorem WF.part(t:TypeId)(cs:Array Value)(o:Nat):WF P (part t cs o):=WF.bind (WF.isAgg t) fun b=>by
 split
 ·grind[WF.bind,WF.sizeOf,WF.pure]
 ·split
  ·exact WF.pure _
  ·exact WF.halt _
theorem WF.field(t:TypeId)(x:Value)(f:Nat):WF P (Instr.field t x f):=WF.bind (WF.underlying t) fun d=>by
 split
 ·split
  ·grind[WF.bind,WF.asAgg,WF.part]
  ·exact WF.halt _
 ·exact WF.halt _
theorem WF.indexAt(t:TypeId)(x i:Value):WF P (Instr.indexAt t x i):=WF.bind (WF.asIntOf i) fun q=>by
 obtain⟨k,i⟩:=q;dsimp only;refine WF.bind (WF.underlying t) fun d=> ?_
 have rest:∀q:Option Addr×Nat×TypeId,WF P (do
   let d←Go.underlying t
   match q.1 with
   |some a=>
    if 0≤i∧i<(q.2.1:Int)then do
     let s←Go.sizeOf q.2.2
     Pure.pure (Value.pointer (some (a.add (i.toNat*s))))
    else if(decide (q.2.1≤1)&&(match d with| .array .. =>true|_=>false))=true then unsupported (.noEntry "op/indexAddr.an index out of range at an array of length 0 or 1 (ledger 616)")
    else boundsPanic k i q.2.1 .index
   |none=>boundsPanic k i 0 .index:Sem Value):=fun q=>by
  refine WF.bind (WF.underlying t) fun d=> ?_
  split
  ·split
   ·grind[WF.bind,WF.sizeOf,WF.pure]
   ·repeat' split
    all_goals first|exact WF.halt _|exact WF.bounds _ _ _ _
  grind[WF.bounds]
 split
 ·exact WF.bind (WF.sureAddr _) fun _=>WF.bind (WF.pure _) fun q=>rest q
 ·exact WF.bind (WF.pure _) fun q=>rest q
 ·exact WF.bind (WF.halt _) fun q=>rest q
theorem WF.index(t:TypeId)(x i:Value):WF P (Instr.index t x i):=WF.bind (WF.asIntOf i) fun q=>by
 obtain⟨k,i⟩:=q;dsimp only;refine WF.bind (WF.underlying t) fun d=> ?_
 split
 ·grind[WF.bind,WF.sizeOf,WF.part,WF.bounds]
 ·grind[WF.pure,WF.bounds]
 ·exact WF.halt _
theorem WF.extract(x:Value)(i:Nat):WF P (Instr.extract x i):=by
 unfold Instr.extract;split
 ·split
  ·exact WF.pure _
  ·exact WF.halt _
 ·exact WF.halt _
theorem WF.sliceBound(x:Value)(y:Nat)(c:BoundsCode):WF P (Instr.sliceBound x y c):=WF.bind (WF.asIntOf x) fun q=>by
 grind[WF.pure,WF.bounds]
theorem WF.sliceBounds(b:Bool)(len cap:Nat)(l h:Option Value):WF P (Instr.sliceBounds b len cap l h none):=by
 cases h with
 |none=>
  cases l with
  |none=>exact WF.bind (WF.pure _) fun _=>WF.bind (WF.pure _) fun _=>WF.bind (WF.pure _) fun _=>WF.pure _
  |some l=>exact WF.bind (WF.pure _) fun _=>WF.bind (WF.pure _) fun _=>WF.bind (WF.sliceBound _ _ _) fun _=>WF.pure _
 |some h=>
  cases l with
  |none=>exact WF.bind (WF.pure _) fun _=>WF.bind (WF.sliceBound _ _ _) fun _=>WF.bind (WF.pure _) fun _=>WF.pure _
  |some l=>exact WF.bind (WF.pure _) fun _=>WF.bind (WF.sliceBound _ _ _) fun _=>WF.bind (WF.sliceBound _ _ _) fun _=>WF.pure _
theorem WF.asAddr(v:Value):WF P (asAddr v):=by
 unfold Go.asAddr;split
 ·exact WF.pure _
 ·exact WF.vu (lh _)
 ·exact WF.halt _
theorem WF.slice(t:TypeId)(x:Value)(l h:Option Value):WF P (Instr.slice t x l h none):=WF.bind (WF.underlying t) fun d=>by
 split
 ·grind[WF.bind,WF.sliceBounds,WF.pure]
 ·grind[WF.bind,WF.sliceBounds,WF.sizeOf,WF.pure]
 ·refine WF.bind (WF.asAddr _) fun _=>WF.bind (WF.underlying _) fun d=> ?_
  split
  ·grind[WF.bind,WF.sliceBounds,WF.sizeOf,WF.pure]
  ·exact WF.halt _
 ·exact WF.halt _
theorem WF.sliceAt(t:TypeId)(x:Value)(l h:Option Value):WF P (Instr.sliceAt t x l h none):=WF.bind (WF.underlying t) fun d=>by
 grind[WF.bind,WF.sureAddr,WF.sliceBounds,WF.sizeOf,WF.pure,WF.slice]
theorem WF.sS{f:α→Sem β}(h:∀x,WF P (f x)):∀l:List α,WF P (l.mapM f)
 |[]=>WF.pure _
 |x::l=>by
  rw[AXs];exact WF.bind (h x) fun _=>WF.bind (WF.sS h l) fun _=>WF.pure _
theorem WF.mapM{f:α→Sem β}(h:∀x,WF P (f x))(a:Array α):WF P (a.mapM f):=by
 rw[Array.mapM_eq_mapM_toList,←bind_pure_comp];grind[WF.bind,WF.sS,WF.pure]
theorem WF.build(t:TypeId)(ps:Array (Nat×Value)):WF P (Instr.build t ps):=WF.bind (WF.zeroValue t) fun z=>by
 refine WF.bind (WF.underlying t) fun d=> ?_
 split
 ·refine WF.bind (WF.mapM (fun f=>WF.bind (WF.sizeOf _) fun _=>WF.pure _) _) fun _=> ?_
  split
  ·exact WF.pure _
  ·exact WF.halt _
 ·refine WF.bind (WF.sizeOf _) fun _=> ?_
  split
  ·exact WF.pure _
  ·exact WF.halt _
 ·exact WF.halt _
end
end Go.Fw
end
section
namespace Go.Fw
def Kof(hint:ABJ)(E:Env)(w:World)(bx:List Bx)(c:Nat):Prop:=E.T c∨ ∃n B,n∈hint∧bx[n]? =some B∧xy E w n B c
def pr(K:Nat→Prop)(w w':World):Prop:= ∀c,K c→w'.heap[c]? =w.heap[c]?
theorem AAf{w:World}{B:Nat→Prop}:∀{p:List WR} {r:Ty} {h:Value} {rows:List r.D} {q:Ty} {ys:List q.D} {bb o len cap i:Nat},Rd w B (.sl r) [h] rows→DF r rows p→G_ r rows p=some ⟨q,ys⟩→
  Iw w h p=some (.slice (some ⟨bb,o,none⟩) len cap)→i<ys.length→RB w (.sl r) [h] rows bb
 |[],r,h,rows,q,ys,bb,o,len,cap,i,hr,hp,hg,hh,hi=>by
  rw[DA]at hh;cases hh;simp only[G_,ALt,AM4]at hg;obtain⟨rfl,hg⟩:=hg;obtain rfl:=AQj hg;simp only[RB];grind
 |s::p,r,h,rows,q,ys,bb,o,len,cap,i,hr,hp,hg,hh,hi=>by
  simp only[DF]at hp;obtain⟨hsi,PN,hp⟩:=hp;simp only[Rd]at hr;obtain⟨a,cap',e1,_,hr⟩:=hr;obtain rfl:=(List.cons.inj e1).1;rcases hr with hr|⟨b',o',rfl,hb,hr⟩
  ·omega
  obtain⟨cs,hl,hc,hrow⟩:=hr s.i _ (RC hsi);simp only[G_]at hg;split at hg
  case h_2=>cases hg
  rename_i q' x iG;rw[iG]at hp;dsimp only at hp;obtain⟨v,hv,hrv⟩:=eQ hrow iG;have hcv:=hc _ _ hv;rw[←PN]at hcv;simp only[Iw,hcv]at hh;have:=AAf hrv hp hg hh hi;simp only[RB];refine⟨b',o',_,cap',rfl,by omega,.inr ⟨s.i,_,cs,RC hsi,hl,hc,?_⟩⟩;clear hc hcv e1 hr;exact RB_cell hrow iG hv this
where
 RB_cell {w:World} {B:Nat→Prop} {c:Nat}:∀{r:Ty} {cs:List Value} {x:r.D} {j:Nat} {t:Ty} {y:t.D} {v:Value},Rd w B r cs x→BO r j x=some ⟨t,y⟩→cs[j]? =some v→RB w t [v] y c→RB w r cs x c
 | .cons c r,cs,x,0,t,y,v,h,e,hv,k=>by
  simp only[Rd]at h;obtain⟨u,l,rfl,h1,h2⟩:=h;simp only[BO,ALt,AM4]at e;obtain⟨rfl,e⟩:=e;obtain rfl:=AQj e;simp at hv;subst hv;simp only[RB];grind
 | .cons c r,cs,x,j+1,t,y,v,h,e,hv,k=>by
  simp only[Rd]at h;obtain⟨u,l,rfl,h1,h2⟩:=h;simp only[BO]at e;have:=RB_cell h2 e (by simp_all) k;simp only[RB];grind
 | .int k,cs,x,0,t,y,v,h,e,hv,k' =>by
  simp only[BO,ALt,AM4]at e;obtain⟨rfl,_⟩:=e;simp[RB]at k'
 | .bool,cs,x,0,t,y,v,h,e,hv,k' =>by
  simp only[BO,ALt,AM4]at e;obtain⟨rfl,_⟩:=e;simp[RB]at k'
 | .str,cs,x,0,t,y,v,h,e,hv,k' =>by
  simp only[BO,ALt,AM4]at e;obtain⟨rfl,_⟩:=e;simp[RB]at k'
 | .sl r,cs,x,0,t,y,v,h,e,hv,k=>by
  simp only[BO,ALt,AM4]at e;obtain⟨rfl,e⟩:=e;obtain rfl:=AQj e;have hl:=lX h;simp only[Ty.n]at hl;obtain⟨u,rfl⟩:=List.length_eq_one_iff.1 hl;simp_all
 | .unit,_,_,_,_,_,_,_,e,_,_=>by simp[BO]at e
 | .int _,_,_,_+1,_,_,_,_,e,_,_=>by simp[BO]at e
 | .bool,_,_,_+1,_,_,_,_,e,_,_=>by simp[BO]at e
 | .str,_,_,_+1,_,_,_,_,e,_,_=>by simp[BO]at e
 | .sl _,_,_,_+1,_,_,_,_,e,_,_=>by simp[BO]at e
section
variable{P:Program} {T:Jp} (hT:Em P T) {E:Env} {w:World}
include hT
theorem tE{σ:St}{Fs:List ABJ}(hB:NG E w σ.bx σ.bx Fs)(st:∀c,E.S c→E.T c){t:Nat}{x:AV}{z:XV}(e:ln T t σ (.c x)=some z){v:Value}(hx:VR E w σ.bx x v):
  ∃bb oo u y,v= .pointer (some ⟨bb,oo,none⟩)∧JR σ.bx x 0=some y∧XR E w σ.bx z u∧ ∀w',w'.heap[bb]? =w.heap[bb]?→(Instr.loadAt t v).run P w' = .ok u w':=by
 unfold ln at e;split at e
 case h_2=>cases e
 rename_i x' ti ym Uv;cases ym;split at e
 case isTrue=>cases e
 rename_i PN;have jf:=fun w=>Em.isAgg hT Uv w
 split at e
 ·rename_i ha
  simp only[AL9]at e;obtain⟨l,hl,rfl⟩:=e;obtain⟨h1,h2⟩:=af hl;have h0:0<l.length:=by omega
  obtain⟨b,o,u,hv,_,_⟩:=LS hB st (h2 0 _ (ALR h0)) hx;obtain⟨cs,c1,c2,c3⟩:=dd hB st hx hv (l:=l) (j:=0) (fun i y hy=>by simp_all);subst hv;have ji:=(hT t ti Uv).und;cases hd:ti.desc with
  |st fs=>
   rw[hd]at ji;obtain⟨fields,hu,_⟩:=ji;refine⟨b,o,.agg cs.toArray,_,rfl,by simpa using h2 0 _ (ALR h0),⟨cs.toArray,rfl,by omega⟩,fun w' hw=>run_loadAt_mid w' b o t cs _ (by have:=c2.of_block hw;grind[Bc,World.rangeAt]) hu rfl ?_⟩;grind[Em.size]
  |_=>grind[TD.agg]
 ·rename_i ha
  simp only[APN]at ha;simp only[AL9]at e;obtain⟨y,hy,rfl⟩:=e;obtain⟨b,o,u,hv,hc,hr⟩:=LS hB st hy hx;subst hv;refine⟨b,o,u,y,rfl,hy,hr,fun w' hw=> ?_⟩;have AMm:=jf w';rw[ha]at AMm;simp only[ATu]at hc;have Zf:w'.cell? ⟨b,o,none⟩=some u:=by grind[World.cell?_of_block]
  simp[Instr.loadAt,Instr.sureAddr,loadVar,AMm,Zf]
end
theorem wu{E E':Env}{w w':World}{vw vw':List Bx}{t:Ty}{x:t.D}{v:Value}(h:VR E w vw (.v t x) v):VR E' w' vw' (.v t x) v:=by
 obtain⟨h1,h2⟩:=h;refine⟨h1,?_⟩;cases t<;>simp_all[Ty.scalar,Rd]
theorem jb{E E':Env}{w w':World}{vw vw':List Bx}{t:Ty}{x:t.D}{v u:Value}(h:VR E w vw (.v t x) v)(k:VR E' w' vw' (.v t x) u):v=u:=by
 obtain⟨h1,h2⟩:=h;obtain⟨_,k2⟩:=k;cases t<;>simp_all[Ty.scalar,Rd]
def j8(x:XV):Prop:=(∃t z,x= .c (.v t z))∨(∃l,x= .agg l∧ ∀c∈l,∃t z,c= .v t z)
theorem MC{E E':Env}{w w':World}{vw vw':List Bx}{x:XV}{v:Value}(hp:j8 x)(h:XR E w vw x v):XR E' w' vw' x v:=by
 rcases hp with⟨t,z,rfl⟩|⟨l,rfl,hl⟩
 ·exact wu (E:=E) (w:=w) (vw:=vw) (E':=E') (w':=w') (vw':=vw') h
 ·obtain⟨vs,rfl,VO⟩:=h
  refine⟨vs,rfl,?_⟩
  generalize vs.toList=m at VO
  induction l generalizing m with
  |nil=>cases m with
   |nil=>trivial
   |cons _ _=>exact VO.elim
  |cons c l ih=>cases m with
   |nil=>exact VO.elim
   |cons u m=>
    obtain⟨t,z,rfl⟩:=hl c (by simp);exact⟨wu VO.1,ih (fun c hc=>hl c (by simp[hc])) m VO.2⟩
theorem uJ{d:TD}{x z:AV}{p:Bool}(e:pj d x z=some p):(∃t y,x= .v t y)∧ ∃t y,z= .v t y:=by
 unfold pj at e;grind
theorem ZA{T:Jp}:∀{i:Nat} {fs:List ADE} {l m:List AV} {r:Bool},Kp T i fs l m=some r→(∀c∈l,∃t z,c= .v t z)∧ ∀c∈m,∃t z,c= .v t z
 |i,[],[],[],r,e=>by simp
 |i,(o,t)::fs,x::l,z::m,r,e=>by
  simp only[Kp]at e;split at e
  case isFalse=>cases e
  split at e
  case h_2=>cases e
  split at e
  case h_2=>cases e
  rename_i p hp;simp only[AL9]at e;obtain⟨r',e1,_⟩:=e;obtain⟨a1,a2⟩:=uJ hp;obtain⟨b1,b2⟩:=ZA e1;simp_all
 |_,[],[],_::_,_,e=>by simp[Kp]at e
 |_,[],_::_,_,_,e=>by simp[Kp]at e
 |_,_::_,[],_,_,e=>by simp[Kp]at e
 |_,_::_,_::_,[],_,e=>by simp[Kp]at e
theorem AKa{op:BinOp}{κ:IntKind}{a b:Int}{r:AV}(e:fc op κ a b some=some r):∃t x,r= .v t x:=by
 cases op<;>simp only[fc,ALt]at e<;>first
  |exact⟨_,_,e.symm⟩
  |(grind)
  |cases e
theorem ACT{op:BinOp}{κ:IntKind}{a b:Int}{r:AV}(e:Yy op κ a b some=some r):∃t x,r= .v t x:=by
 unfold Yy at e;grind
theorem AKp{op:BinOp}{a b:ACD}{r:AV}(e:iQ op a b some=some r):∃t x,r= .v t x:=by
 cases op<;>simp only[iQ,ALt]at e<;>first
  |exact⟨_,_,e.symm⟩
  |(
   split at e
   all_goals grind)
  |cases e
theorem APV{T:Jp}{t:Nat}{op:BinOp}{a b:XV}{r:AV}(e:wN T t op a b some=some r):(∃t x,r= .v t x)∧j8 a∧j8 b:=by
 unfold wN at e;split at e
 ·refine⟨?_,.inl ⟨_,_,rfl⟩,.inl ⟨_,_,rfl⟩⟩
  grind[ACT,AKa]
 ·exact⟨AKp e,.inl ⟨_,_,rfl⟩,.inl ⟨_,_,rfl⟩⟩
 ·refine⟨?_,.inl ⟨_,_,rfl⟩,.inl ⟨_,_,rfl⟩⟩
  grind
 ·split at e
  ·rename_i hq
   rw[AMR]at hq;obtain⟨fs,_,hq⟩:=hq;obtain⟨q1,q2⟩:=ZA hq;cases e;exact⟨⟨_,_,rfl⟩,.inr ⟨_,rfl,q1⟩,.inr ⟨_,rfl,q2⟩⟩
  ·rename_i hq
   rw[AMR]at hq;obtain⟨fs,_,hq⟩:=hq;obtain⟨q1,q2⟩:=ZA hq;cases e;exact⟨⟨_,_,rfl⟩,.inr ⟨_,rfl,q1⟩,.inr ⟨_,rfl,q2⟩⟩
  simp_all
 simp_all
theorem AE9{g:Bool}{a b:XV}{r:AV}(e:tc g a b some=some r):(∃t x,r= .v t x)∧j8 a∧j8 b:=by
 unfold tc at e;split at e
 ·refine⟨?_,.inl ⟨_,_,rfl⟩,.inl ⟨_,_,rfl⟩⟩
  grind
 simp_all
theorem AWd{op:UnOp}{a:XV}{r:AV}(e:unX op a some=some r):(∃t x,r= .v t x)∧j8 a:=by
 unfold unX at e;split at e
 ·cases e;exact⟨⟨_,_,rfl⟩,.inl ⟨_,_,rfl⟩⟩
 ·cases e;exact⟨⟨_,_,rfl⟩,.inl ⟨_,_,rfl⟩⟩
 simp_all
section
variable{Y:Type} {P:Program} {T:Jp} (hT:Em P T) {Γ:Nat→Option QN} {o:Oper} {E:Env} {σ:St} {a:Act} {w:World} {k:K Y} {y:Y}
include hT
theorem ACf(h:Rel E σ a w){t:TypeId}(ps:Array (Nat×Operand)){s b:Nat}{fs:List ADE}{rw:Option Ty}(Uv:T.get t=some ⟨s,b,.st fs,rw⟩){r:Ty}(hr:T.iT t=some r)
  {cs:List AV} (hb:fp T fs (bX r) (ps.toList.map fun q=>(q.1,σ.ev q.2))=some cs):
  ∃KG,(∀w',(Instr.build t (ps.map fun(i,x)=>(i,a.eval x))).run P w' = .ok (.agg KG) w')∧iy E w σ.bx cs KG.toList:=by
 obtain⟨i,z,h1,h2,h3,_⟩:=row_zero hT hr;obtain⟨fields,hu,hfs,PN⟩:=AHR hT Uv;obtain⟨KG,f1,f2⟩:=au hT (pB h ps) (arr:=z.cells) (by grind[Yu]) hb;refine⟨KG,fun w' => ?_,f2⟩;have hb:P.built t (ps.map fun(i,x)=>(i,a.eval x)).toList=some KG:=by
  unfold Program.built;simp only[h1,hu,h2];have hm:fields.toList.mapM (fun f=>(P.info? f.type).map fun i=>(f.offset,i.size))=some (fields.toList.map fun f=>(f.offset,((P.info? f.type).map (·.size)).getD 0)):=by
   grind[qN]
  simp only[hm];rw[←f1];congr 1;funext n;subst hfs;simp only[List.getElem?_toArray,AQt];cases hn:fields.toList[n]? with
  |none=>simp
  |some f=>
   obtain⟨i',Dh,_⟩:=PN f (ANe hn);simp[Dh]
 grind[run_build]
theorem yu{hint:ABJ}(h:Rel E σ a w)(hq:jE hint σ o.op=true)(e:Wz T Γ o σ k=some y):
  ∃v x,XR E w σ.bx x v∧k x σ=some y∧ ∀w',pr (Kof hint E w σ.bx) w w'→(execOp a.eval o).run P w' = .ok (.value v) w':=by
 obtain⟨Fs,hB,hS⟩:=h.bx;have st:=hS.st;have wf:∀{s:Sem Value} {v:Value},WF P s→s.run P w= .ok v w→ ∀w',s.run P w' = .ok v w':=fun h1 h2 w' =>h1 w _ w h2 w'
 unfold Wz at e;split at e
 ·rename_i x ho
  exact⟨a.eval x,_,h.ev x,e,fun w' _=>by grind[execOp,Sem.run_pure]⟩
 ·rename_i x ho
  unfold bN at e;split at e
  ·grind[jE]
  ·exact⟨a.eval x,_,h.ev x,e,fun w' _=>by grind[execOp,Sem.run_pure]⟩
 ·rename_i c xa xb ho
  split at e
  case h_2=>cases e
  rename_i p hp;have hc:=h.ev c;rw[hp]at hc;have Zf:=SN (E:=E) (w:=w) (vw:=σ.bx) hc;refine⟨if p then a.eval xa else a.eval xb,if p then σ.ev xa else σ.ev xb,by cases p<;>simp[h.ev],by grind[AFQ],fun w' _=>by simp[execOp,ho,Zf,asBool]⟩
 ·rename_i t ho;rw[ho]at hq;cases hq
 ·rename_i t x ho;rw[ho]at hq;cases hq
 ·rename_i t ps ho
  split at e
  case h_2=>cases e
  rename_i s b fs rw r Uv hr;split at e
  case h_2=>cases e
  rename_i cs xW;obtain⟨KG,h1,h2⟩:=ACf hT h ps Uv hr xW;exact⟨.agg KG,.agg cs,⟨KG,rfl,h2⟩,e,fun w' _=>by grind[execOp,Sem.run_bind,Result.andThen_ok,Sem.run_pure]⟩
 ·rename_i t n ps ho;rw[ho]at hq;cases hq
 ·rename_i t x ho
  rw[ho]at hq;split at e
  case h_2=>cases e
  rename_i z hz;have hv:=h.ev x;simp only[jE]at hq
  generalize hX:σ.ev x=X at hq hv hz
  cases X with
  |agg l=>cases hq
  |Me l=>cases hq
  |c ad=>
   obtain⟨bb,oo,u,cell,hp,hc,h2,h3⟩:=tE hT hB st hz hv;refine⟨u,z,h2,e,fun w' rC=> ?_⟩;have hbb:w'.heap[bb]? =w.heap[bb]?:=by
    refine rC bb ?_
    have YQ:VR E w σ.bx ad (a.eval x):=hv;cases ad with
    |IL b j=>
     simp only[h_,AUs]at hq;simp only[JR]at hc;split at hc
     ·rename_i cs hb
      refine .inr ⟨b,_,hq,hb,?_⟩;have:=YQ.2;rw[hp]at this;simp only[Value.pointer.injEq,ALt,Addr.mk.injEq]at this;exact this.1
     simp_all
    |JK b p i sz j=>
     simp only[h_,AUs]at hq;simp only[JR]at hc;split at hc
     ·rename_i d q rows hb
      refine .inr ⟨b,_,hq,hb,?_⟩;simp only[VR,hb]at YQ;obtain⟨_,hpp,q1,ys,b2,o2,len,cap,g1,g2,g3,g4⟩:=YQ;rw[hp]at g4;simp only[Value.pointer.injEq,ALt,Addr.mk.injEq]at g4;obtain⟨rfl,_⟩:=g4;obtain⟨F,⟨_,ho2⟩,_⟩:=hB.get hb;exact AAf (Xh ho2) hpp g1 g3 g2
     simp_all
    |PM s r z j=>
     obtain⟨b2,o2,cs,g1,g2,_⟩:=YQ;rw[hp]at g1;simp only[Value.pointer.injEq,ALt,Addr.mk.injEq]at g1;obtain⟨rfl,_⟩:=g1
     left
     grind
    |_=>cases hq
   grind[execOp,Sem.run_bind,Result.andThen_ok,Sem.run_pure]
 ·rename_i t xa xx ho;rw[ho]at hq;cases hq
 ·rename_i x ho
  have hx:=h.ev x;split at e
  ·rename_i b j hp
   rw[hp]at hx;have ym:b<σ.bx.length∧a.eval x= .pointer (some ⟨E.H0 b,j,none⟩):=hx;grind[execOp,Sem.run_pure]
  ·rename_i b p i sz j hp
   rw[hp]at hx;have hpt:cC (a.eval x)=true:=hx.1;grind[cC,execOp,Sem.run_pure]
  ·rename_i s r z j hp
   rw[hp]at hx;obtain⟨bb,oo,cs,hv,hrest⟩:=hx;exact⟨a.eval x,.c (.PM s r z j),⟨bb,oo,cs,hv,hrest⟩,e,fun w' _=>by grind[execOp,Sem.run_pure]⟩
  ·rename_i f KZ hp
   rw[hp]at hx;have ym:(∀b∈KZ,b<σ.bx.length)∧a.eval x= .func (.func f) #[] (KZ.map fun b=>Value.pointer (some ⟨E.H0 b,0,none⟩)).toArray:=hx;grind[execOp,Sem.run_pure]
  simp_all
 ·rename_i op t x z s ho
  rw[nz,AMR]at e;obtain⟨r,e1,e⟩:=e;obtain⟨⟨t',x',rfl⟩,p1,p2⟩:=APV e1;obtain⟨r0,val,h1,h2,h3⟩:=gz hT e1 (h.ev x) (h.ev z) x z;cases h1;refine⟨val,.c (.v t' x'),h3,e,fun w' _=> ?_⟩;obtain⟨r1,val',g1,g2,g3⟩:=gz hT e1 (MC (E':=E) (w':=w') (vw':=σ.bx) p1 (h.ev x)) (MC p2 (h.ev z)) x z;cases g1;have:=jb h3 g3;subst this;simp only[execOp,ho,Sem.run_bind];simp_all
 ·rename_i op t x ho
  rw[uf,AMR]at e;obtain⟨r,e1,e⟩:=e;obtain⟨⟨t',x',rfl⟩,p1⟩:=AWd e1;obtain⟨r0,val,h1,h2,h3⟩:=kF (P:=P) e1 (h.ev x);cases h1;refine⟨val,.c (.v t' x'),h3,e,fun w' _=> ?_⟩;obtain⟨r1,val',g1,g2,g3⟩:=kF (P:=P) e1 (MC (E':=E) (w':=w') (vw':=σ.bx) p1 (h.ev x));grind[jb,execOp,Sem.run_bind,Result.andThen_ok,Sem.run_pure]
 ·rename_i s d x ho;rw[ho]at hq;cases hq
 ·rename_i f first KZ ho;rw[ho]at hq;cases hq
 ·rename_i t l c ho;rw[ho]at hq;cases hq
 ·rename_i t x lo hi ho
  obtain⟨z,val,h1,h2,h3⟩:=iw hT hB st e (h.ev x) (AAP h lo) (AAP h hi);exact⟨val,z,h3,h1,fun w' _=>by simp only[execOp,ho,Option.map_none,Sem.run_bind,wf (WF.sliceAt _ _ _ _) h2 w',Result.andThen_ok,Sem.run_pure]⟩
 ·rename_i t x f ho
  split at e
  case h_2=>cases e
  rename_i z hz;obtain⟨u,h1,h2⟩:=ie hT hz (h.ev x);refine⟨u,z,h2,e,fun w' _=> ?_⟩;have hw:(Instr.fieldAt t (a.eval x) f).run P w' = .ok u w':=by
   have hx:=h.ev x;unfold uy at hz;split at hz
   case h_2=>cases hz
   rename_i s b fs _ Uv;split at hz
   case h_2=>cases hz
   rename_i o' u' hf;have key:∀ad,a.eval x= .pointer (some ad)→(Instr.fieldAt t (a.eval x) f).run P w' = .ok u w':=by
    intro ad had;rw[had]at h1⊢;have r1:=Uu hT (w:=w) Uv hf (a:=ad);grind[Uu]
   split at hz
   ·rename_i b' j hp
    rw[hp]at hx;exact key _ hx.2
   ·rename_i b' p i sz j hp
    rw[hp]at hx;have hpt:cC (a.eval x)=true:=hx.1;unfold cC at hpt;grind
   ·rename_i s r y' j hp
    rw[hp]at hx;obtain⟨bb,oo,cs,hv,_⟩:=hx;simp_all
   simp_all
  grind[execOp,Sem.run_bind,Result.andThen_ok,Sem.run_pure]
 ·rename_i t x f ho
  split at e
  case h_2=>cases e
  rename_i z hz;obtain⟨u,h1,h2⟩:=l9 hT hz (h.ev x);exact⟨u,z,h2,e,fun w' _=>by simp only[execOp,ho,Sem.run_bind,wf (WF.field _ _ _) h1 w',Result.andThen_ok,Sem.run_pure]⟩
 ·rename_i t x i ho
  obtain⟨z,val,h1,h2,h3⟩:=jn hT hB st e (h.ev x) (h.ev i);exact⟨val,z,h3,h1,fun w' _=>by simp only[execOp,ho,Sem.run_bind,wf (WF.indexAt _ _ _) h2 w',Result.andThen_ok,Sem.run_pure]⟩
 ·rename_i t x i ho
  obtain⟨z,val,h1,h2,h3⟩:=bt hT e (h.ev x) (h.ev i);exact⟨val,z,h3,h1,fun w' _=>by simp only[execOp,ho,Sem.run_bind,wf (WF.index _ _ _) h2 w',Result.andThen_ok,Sem.run_pure]⟩
 ·rename_i x i ho
  split at e
  case h_2=>cases e
  rename_i z hz;obtain⟨u,h1,h2⟩:=dz (P:=P) hz (h.ev x);exact⟨u,z,h2,e,fun w' _=>by simp only[execOp,ho,Sem.run_bind,wf (WF.extract _ _) h1 w',Result.andThen_ok,Sem.run_pure]⟩
 ·rename_i f args q8 ho;rw[ho]at hq;cases hq
 ·rename_i args q8 ho
  split at e
  ·rename_i s t IQ hts
   obtain⟨x,rfl,hx⟩:=Wm IQ;have hv:=h.ev x;rw[hx]at hv;have YQ:=W4 (E:=E) (w:=w) (vw:=σ.bx) hv;split at e
   case isFalse=>cases e
   rename_i hs;have hu:=Wx hT hs;refine⟨.int .i64 (s.length:Int),.c (.v (.int .i64) (s.length:Int)),VR.int (E:=E) (vw:=σ.bx) _ _,e,fun w' _=> ?_⟩;have PN:(⟨s.toArray⟩:ByteArray).size=s.length:=by rfl
   simp[execOp,ho,resolve,invoke,builtin,Builtin.len_,hts,YQ,Ba hu,goInt,PN]
  ·rename_i z t _ IQ hts
   obtain⟨x,rfl,hx⟩:=Wm IQ;have hv:=h.ev x;rw[hx]at hv;split at e
   case isFalse=>cases e
   rename_i hs;split at e
   case h_2=>cases e
   rename_i n hn;obtain⟨el,hu⟩:=lO hT hs;obtain⟨ad,cap,YQ⟩:=mJ hB st hn hv;refine⟨.int .i64 (n:Int),.c (.v (.int .i64) (n:Int)),VR.int (E:=E) (vw:=σ.bx) _ _,e,fun w' _=> ?_⟩;simp[execOp,ho,resolve,invoke,builtin,Builtin.len_,hts,YQ,Ba hu,goInt]
  simp_all
 ·rename_i args q8 ho;rw[ho]at hq;cases hq
 ·rename_i args q8 ho;rw[ho]at hq;cases hq
 ·rename_i args q8 ho
  split at e
  case h_2=>cases e
  rename_i x1 x2 IQ;obtain⟨o1,o2,rfl,hx1,hx2⟩:=Wa IQ;have bf:=h.ev o1;have Z7:=h.ev o2;rw[hx1]at bf;rw[hx2]at Z7;rw[aS,AMR]at e;obtain⟨r,e1,e⟩:=e;obtain⟨⟨t',x',rfl⟩,p1,p2⟩:=AE9 e1;obtain⟨r0,val,h1,h2,h3⟩:=Ta (P:=P) (big:=true) e1 bf Z7 q8 #[] o.type;cases h1;refine⟨val,.c (.v t' x'),h3,e,fun w' _=> ?_⟩;obtain⟨r1,val',g1,g2,g3⟩:=Ta (P:=P) (big:=true) e1 (MC (E':=E) (w':=w') (vw':=σ.bx) p1 bf) (MC p2 Z7) q8 #[] o.type;cases g1;have:=jb h3 g3;subst this;simp only[ATK]at g2;simp[execOp,ho,resolve,invoke,builtin,g2]
 ·rename_i args q8 ho
  split at e
  case h_2=>cases e
  rename_i x1 x2 IQ;obtain⟨o1,o2,rfl,hx1,hx2⟩:=Wa IQ;have bf:=h.ev o1;have Z7:=h.ev o2;rw[hx1]at bf;rw[hx2]at Z7;rw[aS,AMR]at e;obtain⟨r,e1,e⟩:=e;obtain⟨⟨t',x',rfl⟩,p1,p2⟩:=AE9 e1;obtain⟨r0,val,h1,h2,h3⟩:=Ta (P:=P) (big:=false) e1 bf Z7 q8 #[] o.type;cases h1;refine⟨val,.c (.v t' x'),h3,e,fun w' _=> ?_⟩;obtain⟨r1,val',g1,g2,g3⟩:=Ta (P:=P) (big:=false) e1 (MC (E':=E) (w':=w') (vw':=σ.bx) p1 bf) (MC p2 Z7) q8 #[] o.type;cases g1;have:=jb h3 g3;subst this;simp only[AMH,AON]at g2;simp[execOp,ho,resolve,invoke,builtin,g2]
 simp_all
end
end Go.Fw
end
section
namespace Go.Fw
section
variable{P:Program} {md:Region.Mode} {ops:Array Oper} {Q:Exit→Act→World→Prop}
theorem pr.refl(K:Nat→Prop)(w:World):pr K w w:=fun _ _=>rfl
def wM(P:Program)(md:Region.Mode)(ops:Array Oper)(Q:Exit→Act→World→Prop):Nat→Array Bool→(Nat→Prop)→Act→World→Prop
 |0,listed,_,a,w=>Region.ready md ops listed=[]∧Q .normal a w
 |fuel+1,listed,K,a,w=>(Region.ready md ops listed=[]→Q .normal a w)∧
  ∀i∈Region.ready md ops listed,wpOp P ops Q i (fun a' w' => ∃K':Nat→Prop,(∀c,K c→K' c)∧pr K w w'∧wM P md ops Q fuel (listed.setIfInBounds i true) K' a' w') a w
theorem sf:∀(fuel:Nat) (listed:Array Bool) (K:Nat→Prop) (a:Act) (w:World),wM P md ops Q fuel listed K a w→wpAny P md ops Q fuel listed a w
 |0,_,_,_,_,h=>h
 |fuel+1,_,_,_,_,h=>⟨h.1,fun i hi=>wpOp_mono (fun a' w' ⟨K',_,_,h'⟩=>sf fuel _ K' a' w' h') (h.2 i hi)⟩
theorem YieldsIf.mono{S S':World→Prop}{o:Oper}{v:Value}{a:Act}(h:YieldsIf P ops S o v a)(hs:∀w,S' w→S w):YieldsIf P ops S' o v a:=
 h.imp (fun⟨h1,h2⟩=>⟨h1,fun w hw=>h2 w (hs w hw)⟩) id
theorem mO{i:Nat}{oi:Oper}{v:Value}(hi:ops[i]? =some oi)(AGL:∀(j:Nat) (o:Oper) cs b,ops[j]? =some o→o.op≠ .select cs b)(hQ:∀c a w,¬Q (.panic c) a w):
  ∀(fuel:Nat) (listed:Array Bool) (K:Nat→Prop) (a:Act) (w:World),
   (∀j oj,ops[j]? =some oj→j≠i→listed.getD j true=false→(∀e∈oj.after,Region.binds md e=true→e.on≠i)→oi.apart ops oj=true)→
   i∈Region.ready md ops listed→YieldsIf P ops (pr K w) oi v a→wM P md ops Q fuel (listed.setIfInBounds i true) K (a.put oi.dst v) w→wM P md ops Q (fuel+1) listed K a w:=by
 intro fuel
 induction fuel with
 |zero=>
  intro listed K a w _ hr hy H;refine⟨fun h=>(by simp_all),fun j hj=> ?_⟩;by_cases hji:j=i
  ·subst hji;exact hy.wpOp hi (pr.refl K w) ⟨K,fun _ h=>h,pr.refl K w,H⟩
  ·have:=ready_mono hj hji
   rw[H.1]at this;cases this
 |succ fuel ih=>
  intro listed K a w bw hr hy H;refine⟨fun h=>(by simp_all),fun j hj=> ?_⟩;by_cases hji:j=i
  ·subst hji;exact hy.wpOp hi (pr.refl K w) ⟨K,fun _ h=>h,pr.refl K w,H⟩
  ·have h1:=H.2 j (ready_mono hj hji)
   obtain⟨hjun,oj,hoj,gP⟩:=mem_ready.1 hj;have AV9:∀e∈oj.after,Region.binds md e=true→e.on≠i:=fun e he hb heq=>by
    grind[mem_ready,Nat.lt_or_ge,Array.getElem?_eq_none]
   have h2:=wpOp_putIf hoj (bw j oj hoj hji hjun AV9) (fun cs b=>AGL i oi cs b hi) (fun cs b=>AGL j oj cs b hoj) (fun c a w h=>absurd h (hQ c _ w)) hy h1;have APk:∀k ok,ops[k]? =some ok→k≠i→(listed.setIfInBounds j true).getD k true=false→
     (∀e∈ok.after,Region.binds md e=true→e.on≠i)→oi.apart ops ok=true:=fun k ok hk hki hun hno=>by
    refine bw k ok hk hki ?_ hno
    by_cases hjk:j=k
    all_goals simp_all
   refine wpOp_mono (fun a' w' h3=> ?_) h2;obtain⟨yE,K',hK,hs,ht⟩:=h3;refine⟨K',hK,hs,ih (listed.setIfInBounds j true) K' a' w' APk (ready_mono hr (Ne.symm hji)) (YieldsIf.mono yE fun w'' AZY c hc=>(AZY c (hK c hc)).trans (hs c hc)) ?_⟩;grind[Array.setIfInBounds_comm]
end
theorem mH{Y:Type}{f:Nat→List Bool→Option Y}{y:Y}:∀{rs:ABJ},(∀ω,uO f rs ω=some y)→ ∀i∈rs,∀ω,f i ω=some y
 |[i],h,j,hj,ω=>by
  simp at hj;subst hj;exact h ω
 |i::j::r,h,k,hk,ω=>by
  rcases AOJ.1 hk with rfl|hk
  ·exact h (true::ω)
  ·exact mH (rs:=j::r) (fun ω=>h (false::ω)) k hk ω
theorem vj{σ:St}{t:Nat}{b:Bool}(e:σ.tm[t]? =some (.c (.v .bool b))):σ.put (some t) (.c (.v .bool b))=σ:=by
 simp only[St.put];obtain⟨tm,bx⟩:=σ;simp only[St.mk.injEq,ATS];obtain⟨Lu,he⟩:=AMG.1 e;apply AVM;grind
theorem tQ{Y I:Type}[Nonempty I]{C:aW}{ops:Array Oper}{o:Oper}{kn:I→St→Option Y}{σ:St}{y:Y}{E:Env}{a:Act}{w:World}(h:Rel E σ a w)
  (e:∀ω,AAr C ops o (kn ω) σ=some y):
  (Region.wanted o (yielded ops a.tmps)=true∧ ∀ω,(Wz C.T C.Γ o σ fun x σ' =>kn ω (σ'.put o.dst x))=some y)∨
  (Region.wanted o (yielded ops a.tmps)=false∧ ∀ω,kn ω (σ.put o.dst (.Me []))=some y):=by
 unfold AAr at e;cases hg:o.guard with
 |none=>
  simp only[hg]at e;grind[Region.wanted]
 |some q=>
  obtain⟨j,want⟩:=q;simp only[hg]at e;cases ht:(ops[j]?).bind (·.dst)with
  |none=>
   simp_all
  |some t=>
   simp only[ht]at e;obtain⟨i0⟩:= ‹Nonempty I›;have e0:=e i0;split at e0
   ·rename_i b hb
    simp only[hb]at e;obtain⟨v,hv,hx⟩:=h.tmp hb;have hvb:=SN (E:=E) (w:=w) (vw:=σ.bx) hx;subst hvb;have hy:yielded ops a.tmps j=some b:=by rw[ba ht hv];rfl
    have hk:=vj hb;cases b with
    |true=>
     simp only[AMy,tt,hk]at e;cases want with
     |true=>grind[Region.wanted]
     |false=>grind[Region.wanted]
    |false=>
     simp only[AMh,ff,hk]at e;cases want with
     |true=>grind[Region.wanted]
     |false=>grind[Region.wanted]
   ·rename_i hb
    simp only[hb]at e;obtain⟨v,hv,vs,rfl,hx⟩:=h.tmp hb;grind[yielded,ba,Region.wanted]
   simp_all
theorem AEf{ops:Array Oper}{o:Oper}{σ:St}{E:Env}{a:Act}{w:World}(h:Rel E σ a w)(e:idle ops σ o=true):Region.wanted o (yielded ops a.tmps)=false:=by
 unfold idle at e;cases hg:o.guard with
 |none=>simp_all
 |some q=>
  obtain⟨j,want⟩:=q;simp only[hg]at e;cases ht:(ops[j]?).bind (·.dst)with
  |none=>simp_all
  |some t=>
   simp only[ht]at e;split at e
   ·rename_i b hb
    obtain⟨v,hv,hx⟩:=h.tmp hb;have hvb:=SN (E:=E) (w:=w) (vw:=σ.bx) hx;grind[yielded,ba,Region.wanted]
   ·rename_i hb
    obtain⟨v,hv,vs,rfl,hx⟩:=h.tmp hb;grind[yielded,ba,Region.wanted]
   simp_all
theorem sn{Y I:Type}[Nonempty I]{C:aW}{ops:Array Oper}{i:Nat}{o:Oper}(ho:ops[i]? =some o){kn:I→St→Option Y}{σ:St}{y:Y}{E:Env}{a:Act}{w:World}(h:Rel E σ a w)
  (e:∀ω,ABA C ops i (kn ω) σ=some y):
  (Region.wanted o (yielded ops a.tmps)=true∧ ∀ω,(Wz C.T C.Γ o σ fun x σ' =>kn ω (σ'.put o.dst x))=some y)∨
  (Region.wanted o (yielded ops a.tmps)=false∧ ∀ω,kn ω (σ.put o.dst (.Me []))=some y):=
 tQ h fun ω=>by
  grind[ABA]
theorem AFa{hint t:ABJ}{E E':Env}{bx QQ:List Bx}{w w':World}(h:RJ t E bx w E' QQ w')(ht:∀b∈t,b∉hint)(ha:∀b∈hint,j7 QQ b=false):
  (∀c,Kof hint E w bx c→Kof hint E' w' QQ c)∧pr (Kof hint E w bx) w w':=by
 have key:∀n B,n∈hint→bx[n]? =some B→ ∃B',QQ[n]? =some B'∧U5 B B'∧ ∀c,xy E w n B c→w'.heap[c]? =w.heap[c]?:=by
  intro n B hn hB;have hd:=ha n hn;unfold j7 at hd;split at hd
  ·cases hd
  ·rename_i B' bd TV
   obtain⟨h1,h2⟩:=h.frame n B B' (fun hm=>ht n hm hn) hB TV bd;simp_all
  simp_all
 refine⟨fun c hc=> ?_,fun c hc=> ?_⟩
 ·rcases hc with hc|⟨n,B,hn,hB,hc⟩
  ·exact .inl (h.base.T c hc)
  ·obtain⟨B',TV,hs,hh⟩:=key n B hn hB
   have hid:=h.ids n (AMG.1 hB).1;refine .inr ⟨n,B',hn,TV,?_⟩;cases B with
   |mem cs=>
    cases B' with
    |mem dx=>grind[xy]
    |sl _ _ _=>exact hs.elim
    |dead=>exact hs.elim
   |sl d r rows=>
    cases B' with
    |mem dx=>exact hs.elim
    |dead=>exact hs.elim
    |sl d' r' C1=>
     simp only[U5,AM4]at hs;obtain⟨rfl,hs⟩:=hs;obtain rfl:=AQj hs;grind[xy,nq]
   |dead=>exact hc.elim
 ·rcases hc with hc|⟨n,B,hn,hB,hc⟩
  ·exact h.base.heap c hc
  grind
theorem ZI{Y:Type}{C:aW}{hint:ABJ}{ops:Array Oper}{kn:List Bool→St→Option Y}{fuel:Nat}{listed:Array Bool}{ω:List Bool}{σ:St}{y:Y}(e:Tr C hint ops kn fuel listed ω σ=some y):∀b∈hint,j7 σ.bx b=false:=by
 grind[Tr,List.all_eq_true]
theorem uR{Y:Type}{P:Program}{C:aW}(hT:Em P C.T)(hΓ:gp P C.Γ){E0:Env}{w0:World}{N nb:Nat}{hint:ABJ}{ops:Array Oper}{kn:List Bool→St→Option Y}{y:Y}{Q:Exit→Act→World→Prop}
  (AGL:Region.noSelect ops=true) (hP:∀c a w,¬Q (.panic c) a w) (hk:∀E σ a w,Ok E0 w0 N nb E σ a w→(∀ω,kn ω σ=some y)→Q .normal a w):
  ∀(fuel:Nat) {listed:Array Bool} {E:Env} {σ:St} {a:Act} {w:World},Ok E0 w0 N nb E σ a w→(∀ω,Tr C hint ops kn fuel listed ω σ=some y)→wM P .any ops Q fuel listed (Kof hint E w σ.bx) a w:=by
 intro fuel
 induction fuel with
 |zero=>
  intro listed E σ a w h e;have e1:=fun ω=>e ω
  unfold Tr at e1;have hal:=ZI (e []);have ANS:(hint.all fun b=> !j7 σ.bx b)=true:=ATg.2 fun b hb=>by simp_all
  simp only[ANS,ATK]at e1;cases hr:Region.ready .any ops listed with
  |nil=>
   simp only[hr]at e1;exact⟨hr,hk E σ a w h e1⟩
  |cons i rs=>
   simp_all
 |succ fuel ih=>
  intro listed E σ a w h e;have e1:=fun ω=>e ω
  unfold Tr at e1;have hal:=ZI (e []);have ANS:(hint.all fun b=> !j7 σ.bx b)=true:=ATg.2 fun b hb=>by simp_all
  simp only[ANS,ATK]at e1;cases hr:Region.ready .any ops listed with
  |nil=>
   simp only[hr]at e1;exact⟨fun _=>hk E σ a w h e1,by simp_all⟩
  |cons i0 rs=>
   simp only[hr]at e1;cases hf:(i0::rs).find? (pA hint ops listed σ)with
   |some i=>
    simp only[hf]at e1;have hi:=ATk hf;have ht:=AXl hf;unfold pA at ht;cases ho:ops[i]? with
    |none=>simp_all
    |some o=>
     simp only[ho,AMC]at ht;have bw:=Region.free_spec ho ht.2;rw[←hr]at hi;have hy:=sn (I:=List Bool) (kn:=fun ω σ' =>Tr C hint ops kn fuel (listed.setIfInBounds i true) ω σ') ho h.rel e1;rcases hy with⟨hw,hx⟩|⟨hw,hx⟩
     ·have hq:jE hint σ o.op=true:=by
       rcases ATI _ _▸ht.1 with hq|hi
       ·omega
       ·rw[AEf h.rel hi]at hw
        cases hw
      obtain⟨x,σ',hx0,hx1⟩:=lW hx;obtain⟨v,x',q1,q2,q3⟩:=yu hT h.rel hq hx0;simp only[k0,ALt,APo]at q2;obtain⟨rfl,rfl⟩:=q2;have im:=ih (h.put o.dst q1) hx1;have vZ:(σ.put o.dst x').bx=σ.bx:=by cases o.dst<;>rfl
      rw[vZ]at im;exact mO ho (Region.noSelect_spec AGL) hP fuel listed _ a w bw hi (.inl ⟨hw,q3⟩) im
     ·have im:=ih (h.put o.dst qF) hx
      have vZ:(σ.put o.dst (.Me [])).bx=σ.bx:=by cases o.dst<;>rfl
      rw[vZ]at im;exact mO ho (Region.noSelect_spec AGL) hP fuel listed _ a w bw hi (.inr ⟨hw,rfl⟩) im
   |none=>
    simp only[hf]at e1;have gP:=mH e1;refine⟨fun h0=>(by simp_all),fun i hi=> ?_⟩;rw[hr]at hi;have hx:=gP i hi;cases ho:ops[i]? with
    |none=>
     simp_all
    |some o=>
     simp only[ho]at hx;have htc:(KS C.Γ σ o.op).all (fun b=> !hint.contains b)=true:=by
      have:=hx [];simp_all
     simp only[htc,ATK]at hx;have htn:∀b∈KS C.Γ σ o.op,b∉hint:=fun b hb hh=>by
      simp_all
     unfold wpOp;simp only[ho];rcases sn (I:=List Bool) (kn:=fun ω σ' =>Tr C hint ops kn fuel (listed.setIfInBounds i true) ω σ') ho h.rel hx with⟨hw,hx⟩|⟨hw,hx⟩
     ·rw[ALP hw]
      obtain⟨x,σ',hx0,hx1⟩:=lW hx;refine .inl (AAU hT hΓ h.rel hx0 fun v w' E' x' σ'' g1 g2 g3 g4 g5=> ?_);simp only[k0,ALt,APo]at g5;obtain⟨rfl,rfl⟩:=g5;have vZ:(σ''.put o.dst x').bx=σ''.bx:=by cases o.dst<;>rfl
      have AWD:=ZI (hx1 []);rw[vZ]at AWD;obtain⟨k1,k2⟩:=AFa g3 htn AWD;have im:=ih ((h.next g1 g3 g4).put o.dst g2) hx1;grind
     ·rw[ALo (by simp[hw])]
      have im:=ih (h.put o.dst qF) hx;have vZ:(σ.put o.dst (.Me [])).bx=σ.bx:=by cases o.dst<;>rfl
      grind[pr.refl]
end Go.Fw
end
section
namespace Go.Fw
theorem Rel.heap{E:Env}{σ:St}{a:Act}{w w':World}(h:Rel E σ a w)(hw:w'.heap=w.heap):Rel E σ a w':=by
 have keep:Sh E w σ.bx E w' σ.bx:=by
  refine⟨AQE _,fun _ _=>rfl,fun _ h=>h,fun _ h=>h,h.bx.st,fun _ _=>by rw[hw],fun b d r rows hb e=>⟨d,rows,e,fun p hp q ys hg=>⟨hp,⟨ys,hg,rfl⟩,fun hh he=> ?_⟩⟩⟩;obtain⟨Fs,⟨f1,f2⟩,_⟩:=h.bx;have hF:Fs[b]? =some (Fs[b]'(by omega)):=ALR _;exact vN (f2 b _ _ e hF).2 (fun _ _=>by rw[hw]) (fun _ _=>by rw[hw]) hp hg he
 exact⟨h.NO,h.tm.imp fun _ _ hx=>PK keep hx,h.bx.turn (fun _ _ hv=>GM keep hv) (fun _ h=>h) (fun _ _=>rfl) (fun _ _=>rfl) (fun _ _ _=>by rw[hw]) fun F hF=>⟨hF.nodup,hF.free,fun c hc=>by rw[hw];exact hF.lt c hc,hF.st,fun c hc=>by rw[hw];exact hF.cf c hc⟩⟩
theorem Ok.drawn{E0 E:Env}{w0 w:World}{N nb:Nat}{σ:St}{a:Act}(h:Ok E0 w0 N nb E σ a w)(n:Nat):Ok E0 w0 N nb E σ a { w with drawn:=n }:=
 ⟨h.rel.heap rfl,⟨h.base.T,h.base.S,h.base.Tof,h.base.Sof,h.base.heap,h.base.os,h.base.tape,h.base.output,h.base.size⟩,h.tm,h.qu,h.ids⟩
theorem jy{Y I:Type}[Nonempty I]{P:Program}{C:aW}(hT:Em P C.T)(hΓ:gp P C.Γ){E0:Env}{w0:World}{N nb:Nat}{all:Array Oper}{kn:I→St→Option Y}{y:Y}{Q:Exit→Act→World→Prop}
  (hk:∀E σ a w,Ok E0 w0 N nb E σ a w→(∀ω,kn ω σ=some y)→Q .normal a w):∀{l:List Oper} {E:Env} {σ:St} {a:Act} {w:World},Ok E0 w0 N nb E σ a w→(∀ω,ua C all l (kn ω) σ=some y)→wpList P all Q l a w
 |[],E,σ,a,w,h,e=>hk E σ a w h e
 |o::rest,E,σ,a,w,h,e=>by
  unfold wpList;rcases tQ (kn:=fun ω σ=>ua C all rest (kn ω) σ) h.rel e with⟨hw,hx⟩|⟨hw,hx⟩
  ·rw[ALP hw]
   obtain⟨x,σ',hx0,hx1⟩:=lW hx;refine .inl (AAU hT hΓ h.rel hx0 fun v w' E' x' σ'' g1 g2 g3 g4 g5=> ?_);simp only[k0,ALt,APo]at g5;obtain⟨rfl,rfl⟩:=g5;exact jy hT hΓ hk ((h.next g1 g3 g4).put o.dst g2) hx1
  ·rw[ALo (by simp[hw])]
   exact jy hT hΓ hk (h.put o.dst qF) hx
def OH(P:Program)(body:Code)(Q:Exit→Act→World→Prop)(a:Act)(w:World):Prop:=
 ∀(b:Frame) (k:List Item) (cs:List Frame),∃e a' w',Q e a' w'∧Arrives P (lone (b.at a (.code body:: .inLoop body::k)) cs w) b k cs e a' w'
theorem OH.wp{P:Program}{body:Code}{Q:Exit→Act→World→Prop}{a:Act}{w:World}(h:OH P body Q a w):(Code.loop body).wp P Q a w:=fun b k cs=>by
 obtain⟨e,a',w',hq,cU⟩:=h b k cs;exact⟨e,a',w',hq,.of_steps (.one step_loop) cU⟩
theorem OH.AHc{P:Program}{body:Code}{Q:Exit→Act→World→Prop}{a:Act}{w:World}(h:body.wp P (Exit.then (OH P body Q) Q) a w):OH P body Q a w:=fun b k cs=>by
 obtain⟨e,a₁,w₁,hq,cU⟩:=h b (.inLoop body::k) cs;cases e with
 |normal=>
  obtain⟨e₂,a₂,w₂,hq₂,harr₂⟩:=hq b k cs;exact⟨e₂,a₂,w₂,hq₂,.of_steps (Steps.trans cU (.one step_inLoop)) harr₂⟩
 |exit id=>exact⟨_,a₁,w₁,hq,.pass (x:= .inLoop body) rfl (fun _ _=> .inl (by simp)) cU⟩
 |goto l=>exact⟨_,a₁,w₁,hq,.pass (x:= .inLoop body) rfl (fun _ _=> .inl (by simp)) cU⟩
 |ret=>exact⟨_,a₁,w₁,hq,.pass (x:= .inLoop body) rfl (fun _ _=> .inl (by simp)) cU⟩
 |panic ch=>exact⟨_,a₁,w₁,hq,.pass (x:= .inLoop body) rfl (fun _ _=> .inl (by simp)) cU⟩
 |outgrown=>exact⟨_,a₁,w₁,hq,.pass (x:= .inLoop body) rfl (fun _ _=> .inl (by simp)) cU⟩
abbrev kR:=Exit→Act→World→Prop
def At(P:Program):Code→kR→Nat→Code→kR→Prop
 | .seq a b,Q,ℓ,body,Q' =>At P a (Exit.then (b.wp P Q) Q) ℓ body Q'∨At P b Q ℓ body Q'
 | .cond _ a b,Q,ℓ,body,Q' =>At P a Q ℓ body Q'∨At P b Q ℓ body Q'
 | .block id c,Q,ℓ,body,Q' =>At P c (Exit.inBlock id Q) ℓ body Q'
 | .loop c,Q,ℓ,body,Q' =>(first c= ℓ ∧body=c∧Q' =Q)∨At P c (Exit.then (OH P c Q) Q) ℓ body Q'
 |_,_,_,_,_=>False
def cy(Q:kR):Prop:= ∀c a w,¬Q (.panic c) a w
theorem cy.then{Q:kR}(h:cy Q)(n:Act→World→Prop):cy (Exit.then n Q):=fun c a w hq=>h c a w hq
theorem cy.inBlock{Q:kR}(h:cy Q)(id:Nat):cy (Exit.inBlock id Q):=fun c a w hq=>h c a w hq
section
variable{Y:Type} {P:Program} {C:aW} (hT:Em P C.T) (hΓ:gp P C.Γ) (hm:P.follows .mixedOrders=true) {E0:Env} {w0:World} {N nb:Nat} {y:Y} {J:Nat→St→Option Y}
structure Good (E0:Env) (w0:World) (N nb:Nat) (y:Y) (kn:KN Y) (kx:Nat→KN Y) (kr:KN Y) (Q:kR):Prop where
 n:∀E σ a w,Ok E0 w0 N nb E σ a w→(∀ω,kn ω σ=some y)→Q .normal a w
 x:∀id E σ a w,Ok E0 w0 N nb E σ a w→(∀ω,kx id ω σ=some y)→Q (.exit id) a w
 r:∀E σ a w,Ok E0 w0 N nb E σ a w→(∀ω,kr ω σ=some y)→Q .ret a w
def JOk(P:Program)(E0:Env)(w0:World)(N nb:Nat)(y:Y)(J:Nat→St→Option Y)(cd:Code)(Q:kR):Prop:=
 ∀ ℓ body Q',At P cd Q ℓ body Q'→ ∀E σ a w,Ok E0 w0 N nb E σ a w→J ℓ σ=some y→OH P body Q' a w
include hT hΓ hm in
theorem yt:∀{cd:Code} {kn:KN Y} {kx:Nat→KN Y} {kr:KN Y} {Q:kR} {E:Env} {σ:St} {a:Act} {w:World},cy Q→Good E0 w0 N nb y kn kx kr Q→JOk P E0 w0 N nb y J cd Q→Ok E0 w0 N nb E σ a w→
  (∀ω,run C J cd kn kx kr ω σ=some y)→cd.wp P Q a w:=by
 intro cd
 induction cd with
 |skip=>intro kn kx kr Q E σ a w hp hg hj h e;exact wp_skip (hg.n E σ a w h e)
 |region id ops draw=>
  intro kn kx kr Q E σ a w hp hg hj h e;simp only[run]at e;cases draw with
  |false=>
   simp only[AMH,AON]at e;exact wp_region_list (jy hT hΓ hg.n h e)
  |true=>
   simp only[ATK]at e;have hs:Region.noSelect ops=true:=by
    have:=e [];split at this
    ·rename_i hh;exact hh
    ·cases this
   simp only[hs,ATK]at e;exact wp_region_any hm (sf _ _ _ _ _ (uR hT hΓ hs hp hg.n _ (h.drawn _) e))
 |seq x z ihx ihz=>
  intro kn kx kr Q E σ a w hp hg hj h e;simp only[run]at e;refine wp_seq (ihx (hp.then _) ⟨fun E σ a w h e=>ihz hp hg (fun ℓ body Q' Oj=>hj ℓ body Q' (.inr Oj)) h e,fun id E σ a w h e=>hg.x id E σ a w h e,hg.r⟩ (fun ℓ body Q' Oj=>hj ℓ body Q' (.inl Oj)) h e)
 |cond c x z ihx ihz=>
  intro kn kx kr Q E σ a w hp hg hj h e;cases c with
  |tmp t=>
   simp only[run]at e;have e0:=e [];split at e0
   ·rename_i b hb
    simp only[hb]at e;obtain⟨v,hv,hx⟩:=h.rel.tmp hb;have hvb:=SN (E:=E) (w:=w) (vw:=σ.bx) hx;subst hvb;have yB:a.eval (.tmp t)= .bool b:=by simp[Act.eval,AWl,hv]
    have hk:=vj hb;cases b with
    |true=>
     simp only[AMy,tt,hk]at e;exact wp_cond_true yB (ihx hp hg (fun ℓ body Q' Oj=>hj ℓ body Q' (.inl Oj)) h e)
    |false=>
     simp only[AMh,ff,hk]at e;exact wp_cond_false yB (ihz hp hg (fun ℓ body Q' Oj=>hj ℓ body Q' (.inr Oj)) h e)
   ·cases e0
  |_=>cases e []
 |block id c ih=>
  intro kn kx kr Q E σ a w hp hg hj h e;simp only[run]at e;refine wp_block (ih (hp.inBlock id) ⟨hg.n,fun j E σ a w h e=> ?_,hg.r⟩ (fun ℓ body Q' Oj=>hj ℓ body Q' Oj) h e);simp only[Exit.inBlock];split
  ·rename_i hid
   simp only[hid,ATK]at e;exact hg.n E σ a w h e
  ·rename_i hid
   simp only[hid,AON]at e;exact hg.x j E σ a w h e
 |loop body ih=>
  intro kn kx kr Q E σ a w hp hg hj h e;simp only[run]at e;exact OH.wp (hj (first body) body Q (.inl ⟨rfl,rfl,rfl⟩) E σ a w h (e []))
 |exit id=>intro kn kx kr Q E σ a w hp hg hj h e;exact wp_exit (hg.x id E σ a w h e)
 |ret=>intro kn kx kr Q E σ a w hp hg hj h e;exact wp_ret (hg.r E σ a w h e)
 |_=>intro kn kx kr Q E σ a w hp hg hj h e;cases e []
end
end Go.Fw
end
section
namespace Go.Fw
def labels:Code→List Nat
 | .seq a b=>labels a++labels b
 | .cond _ a b=>labels a++labels b
 | .block _ c=>labels c
 | .loop c=>first c::labels c
 |_=>[]
theorem At.label{P:Program}:∀{cd:Code} {Q:kR} {ℓ :Nat} {body:Code} {Q':kR},At P cd Q ℓ body Q'→ ℓ ∈labels cd
 | .seq a b,Q,ℓ,body,Q',h=>by
  simp only[labels,AOl];exact h.imp At.label At.label
 | .cond _ a b,Q,ℓ,body,Q',h=>by
  simp only[labels,AOl];exact h.imp At.label At.label
 | .block _ c,Q,ℓ,body,Q',h=>At.label (cd:=c) h
 | .loop c,Q,ℓ,body,Q',h=>by
  simp only[labels,AOJ];exact h.imp (fun h=>h.1.symm) At.label
section
variable{Y:Type} {P:Program} {C:aW} (hT:Em P C.T) (hΓ:gp P C.Γ) (hm:P.follows .mixedOrders=true) {E0:Env} {w0:World} {N nb:Nat} {y:Y} {J:Nat→St→Option Y}
theorem Qz{ℓ :Nat}:∀{cd:Code} {kn:KN Y} {kx:Nat→KN Y} {kr:KN Y},ℓ ∉labels cd→find C J ℓ cd kn kx kr=none
 | .seq a b,kn,kx,kr,h=>by
  simp only[labels,AOl,AXv]at h;simp only[find];rw[Qz h.1];exact Qz h.2
 | .cond _ a b,kn,kx,kr,h=>by
  simp only[labels,AOl,AXv]at h;simp only[find];rw[Qz h.1];exact Qz h.2
 | .block _ c,kn,kx,kr,h=>by simp only[find];exact Qz (cd:=c) h
 | .loop c,kn,kx,kr,h=>by
  simp only[labels,AOJ,AXv]at h;simp only[find];rw[ALo (fun e=>h.1 e.symm)];exact Qz h.2
 | .skip,_,_,_,_=>rfl
 | .region _ _ _,_,_,_,_=>rfl
 | .rangeFunc _ _ _ _,_,_,_,_=>rfl
 | .exit _,_,_,_,_=>rfl
 | .scope _,_,_,_,_=>rfl
 | .label _,_,_,_,_=>rfl
 | .goto _,_,_,_,_=>rfl
 | .ret,_,_,_,_=>rfl
 | .refuse _,_,_,_,_=>rfl
include hT hΓ hm in
theorem AI5{ℓ :Nat}:∀{cd:Code} {kn:KN Y} {kx:Nat→KN Y} {kr:KN Y} {Q:kR} {body:Code} {Q':kR},(labels cd).Nodup→cy Q→Good E0 w0 N nb y kn kx kr Q→JOk P E0 w0 N nb y J cd Q→At P cd Q ℓ body Q'→
  ∃kn' kx' kr',find C J ℓ cd kn kx kr=some (fun ω σ=>run C J body (fun _ σ=>J ℓ σ) kx' kr' ω σ)∧Good E0 w0 N nb y kn' kx' kr' Q'∧cy Q'∧JOk P E0 w0 N nb y J body (Exit.then (OH P body Q') Q'):=by
 intro cd
 induction cd with
 |seq a b iha ihb=>
  intro kn kx kr Q body Q' hn hp hg hj Oj;simp only[labels,AM6]at hn;obtain⟨n1,n2,n3⟩:=hn;have hja:JOk P E0 w0 N nb y J a (Exit.then (b.wp P Q) Q):=fun ℓ body Q' Oj=>hj ℓ body Q' (.inl Oj)
  have hjb:JOk P E0 w0 N nb y J b Q:=fun ℓ body Q' Oj=>hj ℓ body Q' (.inr Oj)
  simp only[find];rcases Oj with Oj|Oj
  ·obtain⟨kn',kx',kr',h1,h2⟩:=iha n1 (hp.then _) (kn:=fun ω σ=>run C J b kn kx kr ω σ) (kx:=kx) (kr:=kr)
    ⟨fun E σ a w h e=>yt hT hΓ hm hp hg hjb h e,fun id E σ a w h e=>hg.x id E σ a w h e,hg.r⟩ hja Oj
   exact⟨kn',kx',kr',by rw[h1],h2⟩
  ·have: ℓ ∉labels a:=fun h=>n3 ℓ h ℓ Oj.label rfl
   rw[Qz this];exact ihb n2 hp hg hjb Oj
 |cond c a b iha ihb=>
  intro kn kx kr Q body Q' hn hp hg hj Oj;simp only[labels,AM6]at hn;obtain⟨n1,n2,n3⟩:=hn;simp only[find];rcases Oj with Oj|Oj
  ·obtain⟨kn',kx',kr',h1,h2⟩:=iha n1 hp hg (fun ℓ body Q' Oj=>hj ℓ body Q' (.inl Oj)) Oj
   exact⟨kn',kx',kr',by rw[h1],h2⟩
  ·have: ℓ ∉labels a:=fun h=>n3 ℓ h ℓ Oj.label rfl
   rw[Qz this];exact ihb n2 hp hg (fun ℓ body Q' Oj=>hj ℓ body Q' (.inr Oj)) Oj
 |block id c ih=>
  intro kn kx kr Q body Q' hn hp hg hj Oj;simp only[find];refine ih hn (hp.inBlock id) ⟨hg.n,fun j E σ a w h e=> ?_,hg.r⟩ (fun ℓ body Q' Oj=>hj ℓ body Q' Oj) Oj;simp only[Exit.inBlock];split
  ·rename_i hid
   simp only[hid,ATK]at e;exact hg.n E σ a w h e
  ·rename_i hid
   simp only[hid,AON]at e;exact hg.x j E σ a w h e
 |loop c ih=>
  intro kn kx kr Q body Q' hn hp hg hj Oj;simp only[labels,AWf]at hn;have hj':JOk P E0 w0 N nb y J c (Exit.then (OH P c Q) Q):=fun ℓ body Q' Oj=>hj ℓ body Q' (.inr Oj)
  simp only[find];by_cases hl:first c= ℓ
  ·rw[ALP hl]
   rcases Oj with⟨_,rfl,rfl⟩|Oj
   ·exact⟨kn,kx,kr,rfl,hg,hp,hj'⟩
   ·exact absurd (hl▸Oj.label) hn.1
  ·rw[ALo hl]
   rcases Oj with⟨h,_⟩|Oj
   ·exact absurd h hl
   ·exact ih hn.2 (hp.then _) ⟨fun E σ a w h e=>hj (first c) c Q (.inl ⟨rfl,rfl,rfl⟩) E σ a w h (e []),fun id E σ a w h e=>hg.x id E σ a w h e,hg.r⟩ hj' Oj
 |_=>intro kn kx kr Q body Q' hn hp hg hj Oj;exact Oj.elim
end
theorem iu{E:Env}{w:World}{vw:List Bx}:∀{l:List (Nat×XP)} {x:G5.V l} {vals:List Value} {tm:List XV},OB E w vw id l x vals→Ca (XR E w vw) tm vals→Ca (XR E w vw) (G5.mk id l x tm) vals
 |[],_,_,_,_,h=>h
 |(i,p)::l,x,vals,tm,hs,h=>by
  obtain⟨⟨v,hv,hx⟩,hs⟩:=hs;simp only[G5.mk];refine iu hs ?_
  have:=Ca.set (i:=i) h hx;have e:vals.set i v=vals:=by
   apply AVM;grind
  simp_all
theorem Ca.undef{E:Env}{w:World}{vw:List Bx}:∀{vals:List Value} {n:Nat},n=vals.length→Ca (XR E w vw) (List.replicate n (.c .undef)) vals
 |[],n,h=>by subst h;trivial
 |v::vals,n,h=>by
  subst h;simp only[ANL,List.replicate_succ];exact⟨trivial,Ca.undef rfl⟩
theorem uQ.shared{E E1:Env}{w:World}{bx:List Bx}{m:Pc}{s:BZ}{x:s.V}{vals:List Value}(h:uQ E w bx m s x vals E1)(hb:DD E w bx bx []):
  ∃E2,E2.H0=E1.H0∧E2.H3=E1.H3∧d_ E w E2 w∧DD E2 w (Jl.mk id s.Gz x.2) (Jl.mk id s.Gz x.2) []∧OB E2 w (Jl.mk id s.Gz x.2) id s.D3 x.1 vals:=by
 obtain⟨Fk,k1,k2,k3,k4⟩:=h.rest
 let E2:Env:={ E1 with S:=fun c=>E1.S c∨c∈Fk.flatten }
 have st1:=h.boxes.st;have keep:Sh E1 w (Jl.mk id s.Gz x.2) E2 w (Jl.mk id s.Gz x.2):=
  ⟨AQE _,fun _ _=>rfl,fun _ h=>h,fun _ h=> .inl h,st1,fun _ _=>rfl,fun b d r rows _ e=>⟨d,rows,e,fun p hp q ys hg=>⟨hp,⟨ys,hg,rfl⟩,fun _ h=>h⟩⟩⟩
 refine⟨E2,rfl,rfl,⟨h.T,fun c hc=> .inl (h.S c hc),fun c hc=> ?_,fun c hc=> ?_,fun _ _=>rfl,rfl,rfl,rfl,AQE _⟩,?_,?_⟩
 ·grind
 ·rcases hc with hc|hc
  ·exact h.Sof c hc
  grind
 ·refine h.boxes.turn (E':=E2) (w':=w) (fun _ _ hv=>GM keep hv) (fun _ h=> .inl h) (fun _ _=>rfl) (fun _ _=>rfl) (fun _ _ _=>rfl) fun F hF=>⟨hF.nodup,hF.free,hF.lt,fun c hc=>hc.elim (hF.st c) fun h=>(k3 c h).2.2.2,hF.cf⟩
 ·have:∀{l:List (Nat×XP)} {z:G5.V l},OB E1 w (Jl.mk id s.Gz x.2) id l z vals→OB E2 w (Jl.mk id s.Gz x.2) id l z vals:=by
   intro l
   induction l with
   |nil=>intro z h;trivial
   |cons q l ih=>
    obtain⟨i,p⟩:=q;intro z h;obtain⟨⟨v,hv,hx⟩,hs⟩:=h;exact⟨⟨v,hv,PK keep hx⟩,ih hs⟩
  exact this h.D3
theorem fq:∀{l:List BP} {i n:Nat},(TC i n l).length=l.length
 |[],_,_=>rfl
 |_::l,i,n=>by simp[TC,fq (l:=l)]
theorem gV:∀{l:List BP} {i n k b:Nat},(TC i n l)[k]? =some (some b)→b=i+k∧b<n∧l[k]?≠some .gone
 |[],i,n,k,b,h=>by simp[TC]at h
 |p::l,i,n,0,b,h=>by
  grind[TC,List.getElem?_cons_zero,Option.some.injEq]
 |p::l,i,n,k+1,b,h=>by
  simp only[TC,AVn]at h;obtain⟨h1,h2,h3⟩:=gV h;grind
theorem gK:∀{l:List BP} {i n k:Nat} {p:BP},l[k]? =some p→p≠ .gone→i+k<n→(TC i n l)[k]? =some (some (i+k))
 |q::l,i,n,0,p,h,hg,hn=>by
  simp at h;subst h;simp only[TC,List.getElem?_cons_zero,ALt];simp_all
 |q::l,i,n,k+1,p,h,hg,hn=>by
  simp only[TC,AVn];rw[gK (l:=l) (i:=i+1) (k:=k) (by simp_all) hg (by omega)];grind
 |[],_,_,_,_,h,_,_=>by simp at h
theorem o4{l:List BP}{n:Nat}:qE (TC 0 n l):=fun i j b h k=>by
 have:=(gV h).1;have:=(gV k).1;omega
end Go.Fw
end
section
namespace Go.Fw
structure AVX (P:Program) (f:Nat) (fn:Func) (c:QN):Prop where
 at_:P.funcs[f]? =some fn
 call:∀args w,(callFunc f args).run P w= .ok (.enter f args) w
 con:c.ok=true
 tmps:c.ins.D3.length≤fn.ntmps
 labels:∀code,fn.body=some code→(labels code).Nodup
section
variable{P:Program} {C:aW} (hT:Em P C.T) {E:Env} {σ:St} {a:Act} {w:World}
include hT in
theorem AF_(h:Rel E σ a w):
  ∀{rs:List ResultVar} {xs:List XV},rs.mapM (AF5 C.T σ)=some xs→ ∃vs,(∀f:ResultVar→Sem Value,(∀u,f (.tmp u)=pure (a.tmps.getD u undef))→(∀b t,f (.cell b t)=(do loadVar t (←asAddr (a.tmps.getD b undef))))→
   (rs.mapM f).run P w= .ok vs w)∧Ca (XR E w σ.bx) xs vs:=by
 intro rs
 induction rs with
 |nil=>
  intro xs e;have hx:xs=[]:=by simpa using e.symm
  subst hx;exact⟨[],fun f _ _=>by simp,trivial⟩
 |cons r rs ih=>
  intro xs e;rw[AXs]at e;simp only[Option.bind_eq_bind,AMR,Option.pure_def,ALt]at e;obtain⟨x,e1,ys,e2,rfl⟩:=e;obtain⟨vs,h1,h2⟩:=ih e2;have one:∃v,(∀f:ResultVar→Sem Value,(∀u,f (.tmp u)=pure (a.tmps.getD u undef))→(∀b t,f (.cell b t)=(do loadVar t (←asAddr (a.tmps.getD b undef))))→(f r).run P w= .ok v w)∧XR E w σ.bx x v:=by
   cases r with
   |tmp t=>
    simp only[AF5]at e1;obtain⟨v,hv,hx⟩:=h.tmp e1;refine⟨v,fun f hf hc=> ?_,hx⟩;rw[hf];simp[AWl,hv]
   |cell b t=>
    simp only[AF5]at e1;split at e1
    case h_2=>cases e1
    rename_i z hz;obtain⟨v,hv,hx⟩:=h.tmp hz;obtain⟨Fs,hB,hS⟩:=h.bx;cases z with
    |agg l=>simp[ln]at e1
    |Me l=>simp[ln]at e1
    |c ad=>
     obtain⟨bb,oo,u,cell,hp,_,q2,q3⟩:=tE hT hB hS.st e1 hx;refine⟨u,fun f hf hc=> ?_,q2⟩;have hgd:a.tmps.getD b undef=v:=by simp[AWl,hv]
     have:=q3 w rfl;rw[hc,hgd,hp];rw[hp]at this;simpa[Instr.loadAt,Instr.sureAddr,asAddr]using this
  obtain⟨v,g1,g2⟩:=one;refine⟨v::vs,fun f hf hc=> ?_,g2,h2⟩;rw[AXs];simp[g1 f hf hc,h1 f hf hc]
theorem gG{vw:List Bx}:∀{l:List XV} {q:List (AV ⊕ List AV)} {vs:List Value},wU l=some q→Ca (XR E w vw) l vs→Ca (TR E w vw) q vs
 |[],q,[],e,_=>by
  simp only[wU,ALt]at e;subst e;trivial
 |[],_,_::_,_,h=>h.elim
 | .c x::l,q,v::vs,e,h=>by
  simp only[wU,AL9]at e;obtain⟨r,e1,rfl⟩:=e;exact⟨h.1,gG e1 h.2⟩
 | .agg x::l,q,v::vs,e,h=>by
  simp only[wU,AL9]at e;obtain⟨r,e1,rfl⟩:=e;exact⟨h.1,gG e1 h.2⟩
 | .Me _::_,_,_,e,_=>by simp[wU]at e
 | .c _::_,_,[],_,h=>h.elim
 | .agg _::_,_,[],_,h=>h.elim
include hT in
theorem rH(h:Rel E σ a w){fn:Func}{x:XV}(e:jG C.T σ fn.results.toList=some x):∃v,(results fn a.tmps).run P w= .ok v w∧XR E w σ.bx x v:=by
 unfold jG at e;have key:∀xs,fn.results.toList.mapM (AF5 C.T σ)=some xs→ ∃vs:List Value,(results fn a.tmps).run P w= .ok (if h:vs.toArray.size=1 then vs.toArray[0]else .tuple vs.toArray) w∧Ca (XR E w σ.bx) xs vs:=by
  intro xs hx;obtain⟨vs,h1,h2⟩:=AF_ (P:=P) hT h hx;refine⟨vs,?_,h2⟩;unfold results;rw[Array.mapM_eq_mapM_toList];simp only[Sem.run_bind,Sem.run_map];rw[h1 _ (fun _=>rfl) (fun _ _=>rfl)];simp only[Result.andThen_ok,Sem.run_pure]
 split at e
 ·rename_i z hz
  cases e;obtain⟨vs,h1,h2⟩:=key _ hz
  match vs,h2 with
  |[v],h2=>exact⟨v,by simpa using h1,h2.1⟩
  |v::_::_,h2=>exact h2.2.elim
  |[],h2=>exact h2.elim
 ·rename_i l hl hz
  simp only[AL9]at e;obtain⟨q,e1,rfl⟩:=e;obtain⟨vs,h1,h2⟩:=key _ hz;have bd: ¬vs.toArray.size=1:=fun hs=>by
   have:=Ca.len h2
   match l,this with
   |[z],_=>exact hl z rfl
   |[],t=>simp at t hs;omega
   |_::_::_,t=>simp at t hs;omega
  rw[dif_neg bd]at h1;exact⟨_,h1,vs.toArray,rfl,by simpa using gG e1 h2⟩
 ·cases e
end
theorem fV{E:Env}{w:World}{vw:List Bx}{more:List Value}:∀{l:List (Nat×XP)} {x:G5.V l} {vals:List Value},OB E w vw id l x vals→OB E w vw id l x (vals++more)
 |[],_,_,_=>trivial
 |(i,p)::l,x,vals,h=>by
  obtain⟨⟨v,hv,hx⟩,hs⟩:=h;exact⟨⟨v,by grind,hx⟩,fV hs⟩
def ABG(C:aW)(c:QN)(fn:Func)(code:Code)(J:Nat→Nat→St→Option c.outs.V):Prop:=
 ∀ ℓ,ℓ ∈labels code→ ∃(s:BZ) (F:Nat→s.V→Option c.outs.V),(∀n,J n ℓ =jump c.ins.Gz.length s (F n))∧(∀v,F 0 v=none)∧
  ∀n v y,F (n+1) v=some y→ ∀ω,HZ C c fn (J n) ℓ ω (s.st fn.ntmps v)=some y
section
variable{P:Program} {C:aW} (hT:Em P C.T) (hΓ:gp P C.Γ) (hm:P.follows .mixedOrders=true) {fn:Func} {c:QN}
def ARM(c:QN)(E0:Env)(w0:World)(u:c.outs.V)(e:Ending)(w':World):Prop:=
 ∃x E',e= .returned x∧d_ E0 w0 E' w'∧DD E' w' (Jl.mk id c.outs.Gz u.2) (Jl.mk id c.outs.Gz u.2) []∧
  OB E' w' (Jl.mk id c.outs.Gz u.2) id c.outs.D3 u.1 [x]∧ ∀i,i<c.ins.Gz.length→alive c.outs.Gz i=true→E'.H0 i=E0.H0 i∧E'.H3 i=E0.H3 i
theorem Ok.opens{E0 E:Env}{w0 w:World}{N nb:Nat}{σ:St}{a:Act}(h:Ok E0 w0 N nb E σ a w)(s:BZ):∃E',Ok E0 w0 N nb E' { σ with bx:=s.opens σ.bx } a w∧
  (∀(i:Nat) d r,s.Gz[i]? =some (.sl d r)→E'.H3 (σ.bx.length+i)= .slice none 0 0)∧(∀x v,XR E w σ.bx x v→XR E' w (s.opens σ.bx) x v):=by
 obtain⟨E',h1,h2,h3,h4⟩:=tJ h.rel s;exact⟨E',h.next h1 h2 rfl,h3,h4⟩
theorem ADl{E E':Env}{w:World}{vw:List Bx}{b:Nat}(h:Le E E')(st:∀c,E.S c→E.T c):Sh E w vw E' w (vw.set b .dead):=by
 refine⟨by simp,fun b _=>by rw[h.H0],h.T,h.S,st,fun _ _=>rfl,fun c d r rows _ e=> ?_⟩;by_cases hc:c=b
 ·simp_all
 ·rw[ASj (fun e=>hc e.symm)]at e
  exact⟨d,rows,e,fun p hp q ys hg=>⟨hp,⟨ys,hg,rfl⟩,fun h' hh=>by rw[h.H3];omega⟩⟩
theorem AKG{E:Env}{σ:St}{a:Act}{w:World}(h:Rel E σ a w)(b:Nat):∃E',Rel E' (σ.oB b) a w∧Le E E':=by
 unfold St.oB;split
 case h_2=>grind[Le.refl]
 rename_i d r rows hb;obtain⟨F,hF,hB⟩:=h.bx.take hb;have Xr:DD E w σ.bx (σ.bx.set b .dead) ([]++F++[]):=by simp_all
 obtain⟨hle,hB3⟩:=Xr.share;have hk:=ADl (vw:=σ.bx) (b:=b) (w:=w) hle h.bx.st;have hk2:Sh E w σ.bx { E with S:=fun c=>E.S c∨c∈F,T:=fun c=>E.T c∨c∈F } w ((σ.bx.set b .dead).map (Bx.oB b r rows)):=by
  refine⟨by simp,hk.H0,hk.T,hk.S,hk.st,hk.heap,fun c d' r' C1 hc e=> ?_⟩;rw[AQt,AL9]at e;obtain⟨B,e,eB⟩:=e;cases B with
  |mem cs=>cases eB
  |dead=>cases eB
  |sl d0 r0 Rt=>
   cases eB;grind
 have hv:∀x v,VR E w σ.bx x v→VR { E with S:=fun c=>E.S c∨c∈F,T:=fun c=>E.T c∨c∈F } w ((σ.bx.set b .dead).map (Bx.oB b r rows)) (x.oB b r rows) v:=fun x v hx=>by
  unfold AV.oB;split
  ·rename_i c
   split
   ·rename_i hc
    subst hc;obtain⟨h1,h2⟩:=hx;rw[hb]at h2;have hv:=h2.2.2;rw[DA]at hv;simp only[ALt]at hv;have:=Xh hF.2;rw[hv]at this;exact Fo (fun c hc=>hc) (fun _ _=>rfl) this
   grind[GM]
  grind[GM]
 refine⟨_,⟨h.NO,?_,?_⟩,hle⟩
 ·refine Ca.K4 _ (fun x v hx=> ?_) h.tm
  unfold XV.oB;split
  ·exact hv _ _ hx
  grind[PK]
 ·obtain⟨Fs,⟨hl,h1⟩,h2⟩:=hB
  have h2':Sep E w (F++Fs.flatten):=h2.perm (by grind);refine⟨Fs,⟨by simp_all,fun k B G TV hG=> ?_⟩,?_⟩
  ·rw[AQt,AL9]at TV
   obtain⟨B0,e,rfl⟩:=TV;have h3:=h1 k B0 G e hG;cases B0 with
   |mem cs=>
    obtain⟨rfl,arr,ty,fr,a1,a2,a3⟩:=h3;exact⟨rfl,arr,ty,fr,a1,a2,Ca.K4 _ (fun x v hx=>hv x v hx) a3⟩
   |sl d0 r0 Rt=>exact⟨h3.1,Eb hle.S (fun _ _=>rfl) (fun _ _=>rfl) h3.2⟩
   |dead=>exact h3
  ·rw[AM3]
   have st:=h.bx.st;refine⟨(AM6.1 h2'.nodup).2.1,fun c hc ht=> ?_,fun c hc=>h2'.lt c (by simp_all),fun c hc=>hc.imp (st c) id,fun c hc=>hc.elim (h2'.cf c) fun h' =>h2'.lt c (by simp[h'])⟩;rcases ht with ht|ht
   ·exact h2'.free c (AOl.2 (.inr hc)) ht
   ·exact(AM6.1 h2'.nodup).2.2 c ht c hc rfl
theorem AFY{σ:St}{b i:Nat}(h:σ.bx[i]? =some .dead):(σ.oB b).bx[i]? =some .dead:=by
 unfold St.oB;split
 ·simp only[AQt,List.getElem?_set]
  split
  ·simp_all
  ·rw[h];rfl
 omega
theorem AA6{σ:St}{b:Nat}:(σ.oB b).bx.length=σ.bx.length∧(σ.oB b).tm.length=σ.tm.length:=by
 grind[St.oB]
theorem Ok.oB{E0 E:Env}{w0 w:World}{N nb:Nat}{σ:St}{a:Act}(h:Ok E0 w0 N nb E σ a w)(b:Nat):∃E',Ok E0 w0 N nb E' (σ.oB b) a w:=by
 obtain⟨E',h1,h2⟩:=AKG h.rel b;refine⟨E',⟨h1,h.base.trans (h2.base w),by rw[AA6.2];exact h.tm,by rw[AA6.1];exact h.qu,fun i hi hd=> ?_⟩⟩;rw[h2.H0,h2.H3];exact h.ids i hi fun e=>hd (AFY e)
theorem Ok.HC{E0:Env}{w0 w:World}{N nb:Nat}{a:Act}:∀(l:List AP) (xs:List AV) {E:Env} {σ:St},Ok E0 w0 N nb E σ a w→ ∃E',Ok E0 w0 N nb E' (HC l xs σ) a w:=by
 intro l xs E σ h
 induction l generalizing xs E σ with
 |nil=>grind[Fw.HC]
 |cons p l ih=>
  unfold Fw.HC;split
  ·rename_i heq
   cases heq;obtain⟨E',h'⟩:=h.oB _;exact ih _ h'
  ·rename_i heq
   cases heq;exact ih _ h
  grind
theorem Ok.AbM{E0:Env}{w0 w:World}{N nb:Nat}{a:Act}{bs:List BP}:∀(l:List (Nat×XP)) {E:Env} {σ:St},Ok E0 w0 N nb E σ a w→ ∃E',Ok E0 w0 N nb E' (Pr bs l σ) a w:=by
 intro l
 induction l with
 |nil=>intro E σ h;exact⟨E,h⟩
 |cons q l ih=>
  intro E σ h;unfold Pr;split
  ·simp_all
  ·rename_i e
   cases e;split
   ·obtain⟨E',h'⟩:=h.HC [_] [_]
    exact ih h'
   grind
  ·rename_i e
   cases e;split
   ·split
    ·obtain⟨E',h'⟩:=h.HC _ _
     exact ih h'
    grind
   grind
  grind
theorem tp{E:Env}{w:World}{vw:List Bx}{x:AV}{v:Value}(h:VR E w vw x v)(hx:x.s8=true):isSlice v=true:=by
 cases x with
 |ref b p=>exact h.1
 |win b p o n=>exact h.1
 |sl s r y=>
  simp only[VR,Rd]at h;obtain⟨a,cap,h,_⟩:=h;simp only[AQY,ATS]at h;rw[h];rfl
 |nil=>cases h;rfl
 |_=>cases hx
theorem zx{E:Env}{σ:St}{a:Act}{w:World}(h:Rel E σ a w)(b j:Nat):Rel E (σ.forget b j) a w∧σ.bx.length≤(σ.forget b j).bx.length∧(∀i:Nat,σ.bx[i]? =some Bx.dead→(σ.forget b j).bx[i]? =some Bx.dead)∧(σ.forget b j).tm=σ.tm:=by
 unfold St.forget;split
 case h_2=>simp_all
 rename_i cs hb;split
 case h_2=>simp_all
 rename_i x hx;split
 case isFalse=>simp_all
 rename_i hs;have hbl:=(AMG.1 hb).1;have hk:Sh E w σ.bx E w (σ.bx.set b (.mem (cs.set j (.ref σ.bx.length [])))++[.dead]):=by
  refine⟨by simp,fun _ _=>rfl,fun _ h=>h,fun _ h=>h,h.bx.st,fun _ _=>rfl,fun c d r rows hc e=> ?_⟩;grind
 refine⟨⟨h.NO,h.tm.imp fun _ _ hx=>PK hk hx,?_⟩,by simp,fun i hi=> ?_,rfl⟩
 ·obtain⟨Fs,⟨hl,h1⟩,h2⟩:=h.bx
  refine⟨Fs++[[]],⟨by simp[hl],fun k B G hB hG=> ?_⟩,by simp_all⟩;by_cases hk2:k<σ.bx.length
  ·rw[AND (by simp_all)]at hB
   rw[AND (by omega)]at hG;by_cases hkb:b=k
   ·subst hkb
    rw[ATe hk2]at hB;cases hB;obtain⟨rfl,arr,ty,fr,a1,a2,a3⟩:=h1 b _ G hb hG;refine⟨rfl,arr,ty,fr,a1,a2,?_⟩;have a4:iy E w (σ.bx.set b (.mem (cs.set j (.ref σ.bx.length [])))++[.dead]) cs arr.toList:=a3.imp fun _ _ hv=>GM hk hv
    obtain⟨v,hv,hvr⟩:=a3.get hx;have W8:arr.toList.set j v=arr.toList:=by
     apply AVM;grind
    rw[←W8];refine Ca.set a4 ⟨tp hvr hs,?_⟩;simp_all
   ·rw[ASj hkb]at hB
    have h3:=h1 k B G hB hG;cases B with
    |mem dx=>
     obtain⟨rfl,arr,ty,fr,a1,a2,a3⟩:=h3;exact⟨rfl,arr,ty,fr,a1,a2,a3.imp fun _ _ hv=>GM hk hv⟩
    |sl d0 r0 Rt=>exact h3
    |dead=>exact h3
  ·have hlen:=(AMG.1 hB).1
   simp only[AOs,ATv,ANL,AQO]at hlen;have hkk:k=σ.bx.length:=by omega
   subst hkk;rw[ANg (by simp)]at hB;rw[ANg (by omega)]at hG;simp[hl]at hB hG;subst hB hG;rfl
 grind
theorem Ok.forget{E0 E:Env}{w0 w:World}{N nb:Nat}{σ:St}{a:Act}(h:Ok E0 w0 N nb E σ a w)(b j:Nat):Ok E0 w0 N nb E (σ.forget b j) a w:=by
 obtain⟨h1,h2,h3,h4⟩:=zx h.rel b j;exact⟨h1,h.base,by rw[h4];exact h.tm,AQ4 h.qu h2,fun i hi hd=>h.ids i hi fun e=>hd (h3 i e)⟩
theorem Ok.Xc{E0 E:Env}{w0 w:World}{N nb:Nat}{a:Act}{bs:List BP}{b:Nat}:∀(l:List AP) (j:Nat) {σ:St},Ok E0 w0 N nb E σ a w→Ok E0 w0 N nb E (Xc bs b j l σ) a w
 |[],_,_,h=>h
 |p::l,j,σ,h=>by
  simp only[Fw.Xc];refine Ok.Xc l (j+1) ?_
  split
  ·split
   ·exact h.forget _ _
   omega
  omega
theorem Ok.AVc{E0 E:Env}{w0 w:World}{N nb:Nat}{a:Act}{bs:List BP}:∀(l:List (Nat×XP)) {σ:St},Ok E0 w0 N nb E σ a w→Ok E0 w0 N nb E (dS bs l σ) a w
 |[],_,h=>h
 |(i,p)::l,σ,h=>by
  simp only[dS];refine Ok.AVc l ?_
  split
  ·split
   ·exact h.Xc _ _
   omega
  omega
theorem Ok.bP{E0:Env}{w0 w:World}{N nb:Nat}{a:Act}:∀(l:List (AP ⊕ List AP)) (xs:List (AV ⊕ List AV)) {E:Env} {σ:St},Ok E0 w0 N nb E σ a w→ ∃E',Ok E0 w0 N nb E' (bP l xs σ) a w:=by
 intro l xs E σ h
 induction l generalizing xs E σ with
 |nil=>unfold Fw.bP;exact⟨E,h⟩
 |cons p l ih=>
  unfold Fw.bP;split
  ·rename_i heq
   cases heq;obtain⟨E',h'⟩:=h.HC _ _;exact ih _ h'
  ·rename_i heq
   cases heq;obtain⟨E',h'⟩:=h.HC _ _;exact ih _ h'
  ·rename_i heq
   cases heq;exact ih _ h
  ·exact⟨E,h⟩
theorem Ok.kN{E0 E:Env}{w0 w:World}{N nb:Nat}{σ:St}{a:Act}(h:Ok E0 w0 N nb E σ a w)(l:List (Nat×XP))(x:XV):∃E',Ok E0 w0 N nb E' (kN l x σ) a w:=by
 unfold Fw.kN;split
 ·unfold AWC
  split
  ·exact h.HC _ _
  ·exact h.HC _ _
  ·exact h.bP _ _
  ·exact⟨E,h⟩
 ·exact⟨E,h⟩
include hT in
theorem sQ{E0 E:Env}{w0 w:World}{N:Nat}{σ:St}{a:Act}{u:c.outs.V}(h:Ok E0 w0 N c.ins.Gz.length E σ a w)(e:rT C.T c fn.results.toList σ=some u):
  a.defers=[]∧ ∃v,(results fn a.tmps).run P w= .ok v w∧ARM c E0 w0 u (.returned v) w:=by
 unfold rT at e;simp only[AMR,AL9]at e;obtain⟨x0,_,x,e1,⟨u',m⟩,e2,rfl⟩:=e;obtain⟨E,h⟩:=h.kN c.outs.D3 x0;revert h e1 e2
 generalize Fw.kN c.outs.D3 x0 σ=σ
 intro e1 e2 h;obtain⟨v,h1,h2⟩:=rH hT h.rel e1;obtain⟨E,h,uc,h4⟩:=h.opens c.outs
 replace h2:=h4 _ _ h2
 obtain⟨hext,E1,hf⟩:=lP (tm:=[x]) (vals:=[v]) h.rel.bx ⟨h2,trivial⟩ uc fq o4 e2;obtain⟨E2,q1,q2,q3,q4,q5⟩:=hf.shared h.rel.bx;refine⟨h.rel.NO,v,h1,v,E2,rfl,h.base.trans q3,q4,q5,fun i hi hal=> ?_⟩;obtain⟨p,hp,hg⟩:∃p,c.outs.Gz[i]? =some p∧p≠ .gone:=by
  unfold alive at hal;cases hh:c.outs.Gz[i]? with
  |none=>rw[hh]at hal;cases hal
  |some p=>
   refine⟨p,rfl,fun hp=> ?_⟩;rw[hh,hp]at hal;cases hal
 have hm1:=hext.2 i i (by have:=gK (i:=0) (n:=c.ins.Gz.length) hp hg (by omega);simpa using this);obtain⟨b,B,g1,g2,g3,_⟩:=ug e2 i p hp hg;rw[hm1]at g1;cases g1;have hid:=hf.ids i i hm1;have AD6:=h.ids i hi (fun hd=>by rw[g2]at hd;cases hd;exact g3 rfl);rw[q1,q2];exact⟨hid.1.trans AD6.1,hid.2.trans AD6.2⟩
include hT hΓ hm in
theorem AEX{code:Code}(hb:fn.body=some code)(hl:(labels code).Nodup){J:Nat→Nat→St→Option c.outs.V}(hJ:ABG C c fn code J)
  {E0:Env} {w0:World} {u:c.outs.V} {Q:kR} (hp:cy Q)
  (hg:Good E0 w0 fn.ntmps c.ins.Gz.length u (fun _=>rT C.T c fn.results.toList) (fun _ _ _=>none) (fun _=>rT C.T c fn.results.toList) Q):
  ∀n,JOk P E0 w0 fn.ntmps c.ins.Gz.length u (J n) code Q:=by
 intro n
 induction n with
 |zero=>
  intro ℓ body Q' Oj E σ a w h e;obtain⟨s,F,j1,j2,j3⟩:=hJ ℓ Oj.label;rw[j1]at e;simp only[jump]at e;split at e
  ·rw[AMR]at e
   obtain⟨q,_,e⟩:=e;rw[j2]at e;cases e
  ·cases e
 |succ n ih=>
  intro ℓ body Q' Oj E σ a w h e;obtain⟨s,F,j1,j2,j3⟩:=hJ ℓ Oj.label;rw[j1]at e;simp only[jump]at e;split at e
  case isFalse=>cases e
  rename_i qu;rw[AMR]at e;obtain⟨⟨v,m⟩,e1,e2⟩:=e;dsimp only at e2;obtain⟨E,h⟩:=h.AbM (bs:=s.Gz) s.D3
  replace h:=h.AVc (bs:=s.Gz) s.D3
  revert h e1
  generalize dS s.Gz s.D3 (Pr s.Gz s.D3 σ)=σ
  intro e1 h;obtain⟨E,h,uc,h4⟩:=h.opens s;obtain⟨hext,E1,hf⟩:=lP h.rel.bx h.rel.tm uc fq o4 e1;obtain⟨E2,q1,q2,q3,q4,q5⟩:=hf.shared h.rel.bx;have PN:fn.ntmps=a.tmps.toList.length:=by rw[←Ca.len h.rel.tm,h.tm]
  have Bq:Ok E0 w0 fn.ntmps c.ins.Gz.length E2 (s.st fn.ntmps v) a w:=by
   refine⟨⟨h.rel.NO,iu q5 (Ca.undef PN),q4⟩,h.base.trans q3,?_,?_,fun i hi hd=> ?_⟩
   ·have:=Ca.len (iu q5 (Ca.undef PN))
    simp only[BZ.st];rw[this,←PN]
   ·simp only[BZ.st]
    rw[TB];exact qu
   ·simp only[BZ.st]at hd
    have hp':s.Gz[i]? =some (s.Gz[i]'(by omega)):=ALR _;have hng:s.Gz[i]'(by omega)≠ .gone:=fun xr=>by
     obtain⟨z,z1,_⟩:=bL id (u:=v.2) hp';apply hd;rw[z1]
     generalize s.Gz[i]'(by omega)=pp at z xr
     subst xr;rfl
    have hm1:=hext.2 i i (by have:=gK (i:=0) (n:=c.ins.Gz.length) hp' hng (by omega);simpa using this);obtain⟨b,B,g1,g2,g3,_⟩:=ug e1 i _ hp' hng;rw[hm1]at g1;cases g1;have hid:=hf.ids i i hm1;have AD6:=h.ids i hi (fun hd=>by rw[g2]at hd;cases hd;exact g3 rfl);rw[q1,q2];exact⟨hid.1.trans AD6.1,hid.2.trans AD6.2⟩
  have AER:=j3 n v u e2;obtain⟨kn',kx',kr',AAk,mN,hnp,hj⟩:=AI5 hT hΓ hm hl hp hg ih Oj;simp only[HZ,hb,AAk]at AER;refine OH.AHc (yt hT hΓ hm (hnp.then _) (kn:=fun _ σ=>J n ℓ σ) ⟨fun E σ a w h e=> ?_,fun id E σ a w h e=>mN.x id E σ a w h e,mN.r⟩ hj Bq AER);exact ih ℓ body Q' Oj E σ a w h (e [])
include hT hΓ hm in
theorem AEW{f:Nat}(hf:AVX P f fn c){J:Nat→Nat→St→Option c.outs.V}(hJ:∀code,fn.body=some code→ABG C c fn code J)
  (hg:∀v u,c.g v=some u→ ∃n,∀ω,DO C c fn (J n) ω v=some u):W9 P f c:=by
 refine⟨hf.con,hf.call,fun E w v args u IQ hB hS hgv=> ?_⟩;obtain⟨n,hn⟩:=hg v u hgv;cases hb:fn.body with
 |none=>
  have:=hn [];simp only[DO,hb]at this;cases this
 |some code=>
  simp only[DO,hb]at hn;refine calls_of_wp hf.at_ hb ?_
  have hp:cy (bodyPost P fn (ARM c E w u)):=fun ch a w' hq=>by
   obtain⟨_,x,E',hx,_⟩:=hq;cases hx
  have mN:Good E w fn.ntmps c.ins.Gz.length u (fun _=>rT C.T c fn.results.toList) (fun _ _ _=>none) (fun _=>rT C.T c fn.results.toList) (bodyPost P fn (ARM c E w u)):=
   ⟨fun E' σ a w' h e=>sQ hT h (e []),fun id E' σ a w' h e=>(by cases e []),fun E' σ a w' h e=>sQ hT h (e [])⟩
  have Bq:Ok E w fn.ntmps c.ins.Gz.length E (c.ins.st fn.ntmps v) { tmps:=args++Array.replicate (fn.ntmps-args.size) undef,defers:=[] } w:=by
   have htm:Ca (XR E w (Jl.mk id c.ins.Gz v.2)) (G5.mk id c.ins.D3 v.1 (List.replicate fn.ntmps (.c .undef))) (args++Array.replicate (fn.ntmps-args.size) undef).toList:=by
    rw[Array.toList_append];refine iu (fV hS) (Ca.undef ?_);have:=hf.tmps;simp;omega
   refine⟨⟨rfl,htm,hB⟩,d_.refl E w,?_,by simp only[BZ.st];rw[TB];exact AQE _,fun _ _ _=>⟨rfl,rfl⟩⟩;simp only[BZ.st];rw[Ca.len htm];have:=hf.tmps;simp;omega
  exact yt hT hΓ hm hp mN (AEX hT hΓ hm hb (hf.labels code hb) (hJ code hb) hp mN n) Bq hn
end
end Go.Fw
end
section
namespace Go.Fw
def F5:List Ty→Ty
 |[]=> .unit
 |c::l=> .cons c (F5 l)
def w7(row:TypeId→Option (List Ty×Bool))(cells:TypeId→Nat):Nat→List Field→Option (List Ty)
 |_,[]=>some []
 |o,f::fs=>
  match row f.type with
  |some (l,_)=>if f.offset=o∧cells f.type=l.length then(w7 row cells (o+l.length) fs).map (l++ ·)else none
  |none=>none
def kM:List Ty×Bool→Ty
 |(l,true)=>F5 l
 |([c],false)=>c
 |_=> .unit
def rowOf(P:Program):Nat→TypeId→Option (List Ty×Bool)
 |0,_=>none
 |n+1,t=>
  match P.underlying t with
  |some (.int k)=>some ([.int k],false)
  |some .bool=>some ([.bool],false)
  |some .string=>some ([.str],false)
  |some (.slice e)=>
   match rowOf P n e with
   |some q=>if P.cellsOf e=q.1.length∧0<q.1.length then some ([.sl (kM q)],false)else none
   |none=>none
  |some (.struct fs)=>
   match w7 (rowOf P n) P.cellsOf 0 fs.toList with
   |some l=>if P.cellsOf t=l.length then some (l,true)else none
   |none=>none
  |_=>none
def Vd:(t:Ty)→t.D→Prop
 | .int k,x=>(Lit.int k x).wf=true
 | .bool,_=>True
 | .str,x=>List.length x≤maxLen
 | .sl r,x=>List.length x≤maxLen∧ ∀y∈x,Vd r y
 | .unit,_=>True
 | .cons c r,x=>Vd c x.1∧Vd r x.2
theorem ja{α:Type}{p:Nat→α→Prop}:∀{n:Nat},(∀i,i<n→ ∃y,p i y)→ ∃x:List α,x.length=n∧ ∀(i:Nat) y,x[i]? =some y→p i y
 |0,_=>⟨[],rfl,fun i y h=>by simp at h⟩
 |n+1,h=>by
  obtain⟨x,h1,h2⟩:=ja (n:=n) (p:=p) (fun i hi=>h i (by omega));obtain⟨y,hy⟩:=h n (by omega);refine⟨x++[y],by simp[h1],fun i z hz=> ?_⟩;grind
theorem sO{w:World}{B:Nat→Prop}:∀{l m:List Ty} {cs ds:List Value} {x:(F5 l).D} {y:(F5 m).D},Rd w B (F5 l) cs x→Rd w B (F5 m) ds y→Vd (F5 l) x→Vd (F5 m) y→
  ∃z:(F5 (l++m)).D,Rd w B (F5 (l++m)) (cs++ds) z∧Vd (F5 (l++m)) z
 |[],m,cs,ds,x,y,h,k,hx,hy=>by
  simp only[F5,Rd]at h;subst h;exact⟨y,k,hy⟩
 |c::l,m,cs,ds,x,y,h,k,hx,hy=>by
  simp only[F5,Rd]at h;obtain⟨v,r,rfl,h1,h2⟩:=h;obtain⟨z,z1,z2⟩:=sO h2 k hx.2 hy;exact⟨(x.1,z),by simp only[AVp,F5,Rd];exact⟨v,r++ds,rfl,h1,z1⟩,hx.1,z2⟩
theorem AC0{P:Program}{n:Nat}{t:TypeId}{l:List Ty}(h:rowOf P n t=some (l,false)):∃c,l=[c]:=by
 cases n with
 |zero=>simp[rowOf]at h
 |succ n=>
  simp only[rowOf]at h;grind
theorem ud{w:World}{B:Nat→Prop}{P:Program}{n:Nat}{t:TypeId}{q:List Ty×Bool}(h:rowOf P n t=some q){cs:List Value}{x:(F5 q.1).D}(hx:Rd w B (F5 q.1) cs x)(hv:Vd (F5 q.1) x):
  (kM q).n=q.1.length∧ ∃y:(kM q).D,Rd w B (kM q) cs y∧Vd (kM q) y:=by
 obtain⟨l,b⟩:=q;cases b with
 |true=>
  refine⟨?_,x,hx,hv⟩;clear h hx hv x;simp only[kM]
  induction l with
  |nil=>rfl
  |cons c l ih=>simp[F5,Ty.n,ih]
 |false=>
  obtain⟨c,rfl⟩:=AC0 h;simp only[F5,Rd]at hx;obtain⟨v,r,rfl,h1,h2⟩:=hx;subst h2;refine⟨?_,x.1,h1,hv.1⟩;have:=lX h1;grind[kM]
theorem ACQ(a:Addr):a.add 0=a:=by rfl
theorem ADB{w:World}{a:Addr}{v:Value}(h:w.cell? a=some v):a.spot=none:=by
 unfold World.cell? at h;split at h
 all_goals simp_all
section
variable{H:Type} {enc:TypeId×Value→H} {P:Program} {w:World} {spare:Nat→Bool} {held:Bool}
theorem jO:∀(n:Nat) {t:TypeId} {q:List Ty×Bool},rowOf P n t=some q→ ∀{fuel:Nat} {cs:List Value} {x:DataW H×List MemPlace},DataW.trod enc P w 0 spare held fuel t cs=some x→
  ∃y:(F5 q.1).D,Rd w (fun b=>b<w.heap.size) (F5 q.1) cs y∧Vd (F5 q.1) y
 |0,t,q,h,_,_,_,_=>by simp[rowOf]at h
 |n+1,t,q,h,fuel,cs,x,hx=>by
  simp only[rowOf]at h;split at h
  ·rename_i k hu
   cases h;obtain⟨m,rfl,_,hw⟩:=DataW.trod_int hu hx;exact⟨(m,()),by simp[F5,Rd],hw,trivial⟩
  ·rename_i hu
   cases h;obtain⟨b,rfl,_⟩:=DataW.trod_bool hu hx;exact⟨(b,()),by simp[F5,Rd],trivial,trivial⟩
  ·rename_i hu
   cases h;obtain⟨s,rfl,_,hs⟩:=DataW.trod_string hu hx;refine⟨(s.data.toList,()),by simp[F5,Rd],?_,trivial⟩
   show s.data.toList.length≤maxLen
   simp_all
  ·rename_i e hu
   split at h
   case h_2=>cases h
   rename_i q' hq';split at h
   case isFalse=>cases h
   rename_i AFB;cases h;rcases DataW.trod_slice hu hx with⟨rfl,_⟩|⟨a,len,cap,elems,rest,m,_,rfl,_,_,hlc,hcm,UR,Oj,_,_⟩
   ·refine⟨([],()),?_,⟨by simp,by simp⟩,trivial⟩
    simp only[F5,Rd];simp_all
   ·have each:∀i,i<len→ ∃y:(kM q').D,Vd (kM q') y∧ ∃ds,ds.length=(kM q').n∧(∀j,j<ds.length→w.cell? ((a.add (i*P.cellsOf e)).add j)=ds[j]?)∧Rd w (fun b=>b<w.heap.size) (kM q') ds y:=by
     intro i hi;have hz:elems[i]? =some (elems[i]'(by omega)):=ALR _;have h1:=Oj i hi;rw[hz,AMR]at h1;obtain⟨ds,hds,htr⟩:=h1;obtain⟨z,z1,z2⟩:=jO n hq' htr;obtain⟨_,c1,c2⟩:=World.cells?_some hds
     grind[ud]
    obtain⟨xs,x1,x2⟩:=ja each;refine⟨(xs,()),?_,⟨by grind,fun y hy=> ?_⟩,trivial⟩
    ·simp only[F5,Rd]
     refine⟨_,[],rfl,⟨_,cap,by rw[x1],by omega,?_⟩,rfl⟩;by_cases h0:len=0
     ·omega
     right
     obtain⟨y0,_,ds0,d0,d1,_⟩:=each 0 (by omega);have hn0:0<(kM q').n:=by
      rw[d0.symm];have hz:elems[0]? =some (elems[0]'(by omega)):=ALR _;have h1:=Oj 0 (by omega);rw[hz,AMR]at h1;obtain⟨ds,hds,htr⟩:=h1;obtain⟨z,z1,z2⟩:=jO n hq' htr;grind[ud]
     have hc0:=d1 0 (by omega);simp only[Nat.zero_mul,ACQ]at hc0;have xW:w.cell? a=some (ds0[0]'(by omega)):=by simp_all
     have hsp:=ADB xW;obtain⟨b,o,s⟩:=a;simp only at hsp;subst hsp;refine⟨b,o,rfl,?_,fun i y hy=> ?_⟩
     ·grind[World.cell?,Array.getElem?_eq_some_iff]
     ·have hil:=(AMG.1 hy).1
      obtain⟨_,ds,e0,e1,e2⟩:=x2 i y hy;have hcn:P.cellsOf e=(kM q').n:=by
       have hz:elems[i]? =some (elems[i]'(by omega)):=ALR _;have h1:=Oj i (by omega);rw[hz,AMR]at h1;obtain⟨ds,hds,htr⟩:=h1;obtain⟨z,z1,z2⟩:=jO n hq' htr;grind[ud]
      refine⟨ds,e0,fun j v hj=> ?_,e2⟩;grind[List.getElem?_eq_some_iff,Addr.add_eq]
    ·obtain⟨i,hi,rfl⟩:=AQQ hy
     exact(x2 i _ (ALR hi)).1
  ·rename_i fs hu
   split at h
   case h_2=>cases h
   rename_i l hl;split at h
   case isFalse=>cases h
   rename_i cX;cases h;obtain⟨xs,m,_,_,hlen,hxs,Oj⟩:=DataW.trod_struct hu hx;have key:∀(fs:List Field) (o:Nat) (l:List Ty) (i0:Nat),w7 (rowOf P n) P.cellsOf o fs=some l→cs.length=o+l.length→(∀(i:Nat) (f:Field),fs[i]? =some f→ ∃z,DataW.trod enc P w 0 spare held m f.type ((cs.drop f.offset).take (P.cellsOf f.type))=some z)→
     ∃y:(F5 l).D,Rd w (fun b=>b<w.heap.size) (F5 l) (cs.drop o) y∧Vd (F5 l) y:=by
    intro fs
    induction fs with
    |nil=>
     intro o l i0 hl hc _;simp only[w7,ALt]at hl;subst hl;refine⟨(),?_,trivial⟩;simp only[F5,Rd];simp_all
    |cons f fs ih=>
     intro o l i0 hl hc Oj;simp only[w7]at hl;split at hl
     case h_2=>cases hl
     rename_i l1 b1 hr;split at hl
     case isFalse=>cases hl
     rename_i hof;simp only[AL9]at hl;obtain⟨l2,xz,rfl⟩:=hl;obtain⟨z,hz⟩:=Oj 0 f rfl;obtain⟨y1,a1,a2⟩:=jO n hr hz;obtain⟨y2,b1,b2⟩:=ih (o+l1.length) l2 0 xz (by grind) (fun i f hf=>Oj (i+1) f (by simp_all));grind[sO,List.drop_drop,List.take_append_drop]
   have:=key fs.toList 0 l 0 hl (by omega) (fun i f hf=>by
    grind)
   simp_all
  simp_all
end
end Go.Fw
end
section
open Go.RowKit
namespace Go.Fw
def tv(W:World):Env:={ H0:=fun _=>0,H3:=fun _=> .nilFunc,T:=fun b=>b<W.heap.size,S:=fun b=>b<W.heap.size }
abbrev oP:BZ:=⟨[(0,.c (.v .bool))],[]⟩
theorem ABr{P:Program}{f:Nat}{D3:List (Nat×XP)}{g:BZ.V ⟨D3,[]⟩→Option oP.V}(hs:W9 P f ⟨⟨D3,[]⟩,oP,g⟩){W:World}{args:Array Value}(x:G5.V D3)(hlen:args.size=D3.length)
  (hx:OB (tv W) W [] id D3 x args.toList) (hg:g (x,())=some ((true,()),())):Calls P f args W fun e W' =>e= .returned (.bool true)∧Below W.heap.size W W':=by
 obtain⟨_,_,h⟩:=hs;refine(h (tv W) W (x,()) args _ hlen ⟨[],⟨rfl,fun k B F h=>by simp_all⟩,by simp,by simp,by simp,fun _ h=>h,fun _ h=>h⟩ hx hg).mono fun e W' hR=> ?_
 obtain⟨v,E',rfl,base,_,⟨⟨v',hv,hxr⟩,_⟩,_⟩:=hR;simp at hv;subst hv;have:v= .bool true:=by
  have h2:VR E' W' [] (.v .bool true) v:=hxr;exact SN h2
 subst this;exact⟨rfl,base.os,base.tape,base.output,base.size,fun k hk=>base.heap k hk⟩
theorem AJG{W:World}{vw:List Bx}{s:Bool}{r:Ty}{v:Value}{y:List r.D}(h:Rd W (fun b=>b<W.heap.size) (.sl r) [v] y):XR (tv W) W vw (XP.mk id (.c (.sl s r)) y) v:=by
 show Rd W (if s then _ else _) (.sl r) [v] y
 cases s<;>exact h
end Go.Fw
end
section
namespace Go.Fw
def RD:List (Nat×QN)→Nat→Option QN
 |[],_=>none
 |(f,c)::l,g=>if f=g then some c else RD l g
def ALz(P:Program):List (Nat×QN)→Prop
 |[]=>True
 |q::l=>W9 P q.1 q.2∧ALz P l
theorem qR{P:Program}:∀{l:List (Nat×QN)},ALz P l→gp P (RD l)
 |[],_=>fun f c e=>by cases e
 |(g,d)::l,h=>fun f c e=>by
  simp only[RD]at e;split at e
  ·rename_i hg
   cases e;subst hg;exact h.1
  ·exact qR h.2 f c e
theorem XC{P:Program}{f:Nat}{fn:Func}(hf:P.funcs[f]? =some fn)(hn:(fn.name== "runtime.NumGoroutine")=false)(hb:fn.body.isNone=false)(args:Array Value)(w:World):
  (callFunc f args).run P w= .ok (.enter f args) w:=by
 have h1:fn.name≠ "runtime.NumGoroutine" :=by simp_all
 have h2:fn.body≠none:=by
  grind
 simp[callFunc,hf,h1,h2]
def iZ(fn:Func)(c:QN):Bool:=
 !(
  fn.name== "runtime.NumGoroutine")&& !fn.body.isNone&&c.ok&&decide (c.ins.D3.length≤fn.ntmps)&&(match fn.body with
  |some code=>decide (labels code).Nodup
  |none=>true)
theorem Abo{P:Program}{f:Nat}{fn:Func}{c:QN}(hf:P.funcs[f]? =some fn)(h:iZ fn c=true):AVX P f fn c:=by
 simp only[iZ,AMC,ATJ,AMi]at h;obtain⟨⟨⟨⟨h1,h2⟩,h3⟩,h4⟩,h5⟩:=h;refine⟨hf,XC hf h1 h2,h3,h4,fun code hc=> ?_⟩;simp_all
def gA(C:aW)(c:QN)(fn:Func)(J:Nat→Nat→St→Option c.outs.V):List Nat→Prop
 |[]=>True
 | ℓ ::l=>(∃(s:BZ) (F:Nat→s.V→Option c.outs.V),(∀n,J n ℓ =jump c.ins.Gz.length s (F n))∧(∀v,F 0 v=none)∧
  ∀n v,∀ω,HZ C c fn (J n) ℓ ω (s.st fn.ntmps v)=F (n+1) v)∧gA C c fn J l
theorem gA.ok{C:aW}{c:QN}{fn:Func}{J:Nat→Nat→St→Option c.outs.V}:∀{l:ABJ},gA C c fn J l→ ∀ ℓ ∈l,∃(s:BZ) (F:Nat→s.V→Option c.outs.V),(∀n,J n ℓ =jump c.ins.Gz.length s (F n))∧(∀v,F 0 v=none)∧
  ∀n v y,F (n+1) v=some y→ ∀ω,HZ C c fn (J n) ℓ ω (s.st fn.ntmps v)=some y
 |[],_,ℓ,h=>by cases h
 |k::l,hl,ℓ,h=>by
  rcases AOJ.1 h with rfl|h
  ·obtain⟨⟨s,F,h1,h2,h3⟩,_⟩:=hl
   exact⟨s,F,h1,h2,fun n v y e ω=>(h3 n v ω).trans e⟩
  ·exact gA.ok hl.2 ℓ h
def jM(fn:Func):ABJ:=
 match fn.body with
 |some code=>labels code
 |none=>[]
def CQ:List AGF→Nat→List Nat
 |[],_=>[]
 |(r,h)::l,q=>if r=q then h else CQ l q
theorem AEb{P:Program}{T:Jp}{l:List (Nat×QN)}{hint:Nat→List Nat}{f:Nat}{fn:Func}{c:QN}(hT:Em P T)(hm:P.follows .mixedOrders=true)(hf:P.funcs[f]? =some fn)(hl:ALz P l)(hc:iZ fn c=true)
  {J:Nat→Nat→St→Option c.outs.V} {L:ABJ} (hL:jM fn=L) (hJ:gA ⟨T,RD l,hint⟩ c fn J L) (n:Nat) (he:∀ω v,DO ⟨T,RD l,hint⟩ c fn (J n) ω v=c.g v):W9 P f c:=
 AEW (C:=⟨T,RD l,hint⟩) hT (qR hl) hm (Abo hf hc) (J:=J) (fun code hb ℓ hℓ =>gA.ok hJ ℓ (by
  grind[jM])) fun v u hg=>⟨n,fun ω=>(he ω v).trans hg⟩
end Go.Fw
end
section
namespace Go.M
abbrev Dw:Nat:=Go.Fw.Dw
def AZ(x:Int):Int:=IntKind.wrap .i64 x
def cZ(κ:IntKind)(a b:Int):Int:=κ.wrap (BitVec.ofInt κ.bits a &&& BitVec.ofInt κ.bits b).toNat
def bOr(κ:IntKind)(a b:Int):Int:=κ.wrap (BitVec.ofInt κ.bits a ||| BitVec.ofInt κ.bits b).toNat
def AS1(κ:IntKind)(a b:Int):Int:=κ.wrap (BitVec.ofInt κ.bits a ^^^ BitVec.ofInt κ.bits b).toNat
theorem qc:∃n:Nat,2^64≤n:=⟨_,AQE _⟩
noncomputable def Ae:Nat:=Classical.choose qc
theorem bV:2^64≤Ae:=Classical.choose_spec qc
def xD{α:Type}(p:Int)(v l:List α):Option (List α):=if 0≤p∧p≤(l.length:Int)∧l.length+v.length≤Dw then some (l.take p.toNat++v++l.drop p.toNat)else none
def AEo{α:Type}(p q:Int)(l:List α):Option (List α):=if 0≤p∧p≤q∧q≤(l.length:Int)then some (l.take p.toNat++l.drop q.toNat)else none
end Go.M
end
section
namespace Go.Fw
structure SP (P:Program) where
 f:Nat
 c:QN
 h:W9 P f c
def SP.l{P:Program}:List (SP P)→List (Nat×QN)
 |[]=>[]
 |s::l=>(s.f,s.c)::SP.l l
theorem AAE{P:Program}:∀l:List (SP P),ALz P (SP.l l)
 |[]=>trivial
 |s::l=>⟨s.h,AAE l⟩
@[reducible] def AP.Cu (R:Type):AP→Type
 | .qv _ rs=>ZB rs→R
 | .v t=>t.D→R
 | .sl _ r=>List r.D→R
 | .mr r=>r.D→R
 | .j0 _ _=>Nat×Nat→R
 |_=>R
def AP.un{R:Type}:(p:AP)→p.Cu R→p.V→R
 | .qv _ _,f,x=>f x
 | .v _,f,x=>f x
 | .sl _ _,f,x=>f x
 | .mr _,f,x=>f x
 | .j0 _ _,f,x=>f x
 | .nil,f,_=>f
 | .ref _,f,_=>f
 | .ptr _ _,f,_=>f
 | .fn _ _,f,_=>f
 | .any,f,_=>f
@[reducible] def Xs.Cu (R:Type):List AP→Type
 |[]=>R
 |p::l=>p.Cu (Xs.Cu R l)
def Xs.un{R:Type}:(l:List AP)→Xs.Cu R l→Xs.V l→R
 |[],f,_=>f
 |p::l,f,x=>Xs.un l (p.un f x.1) x.2
@[reducible] def X2.Cu (R:Type):List (AP ⊕ List AP)→Type
 |[]=>R
 | .inl p::l=>p.Cu (X2.Cu R l)
 | .inr q::l=>Xs.Cu (X2.Cu R l) q
def X2.un{R:Type}:(l:List (AP ⊕ List AP))→X2.Cu R l→X2.V l→R
 |[],f,_=>f
 | .inl p::l,f,x=>X2.un l (p.un f x.1) x.2
 | .inr q::l,f,x=>X2.un l (Xs.un q f x.1) x.2
@[reducible] def XP.Cu (R:Type):XP→Type
 | .c p=>p.Cu R
 | .agg l=>Xs.Cu R l
 | .row r=>r.D→R
 | .Me l=>X2.Cu R l
def XP.un{R:Type}:(p:XP)→p.Cu R→p.V→R
 | .c p,f,x=>p.un f x
 | .agg l,f,x=>Xs.un l f x
 | .row _,f,x=>f x
 | .Me l,f,x=>X2.un l f x
@[reducible] def BP.Cu (R:Type):BP→Type
 | .mem l=>Xs.Cu R l
 | .sl _ r=>List r.D→R
 | .gone=>R
def BP.un{R:Type}:(p:BP)→p.Cu R→p.V→R
 | .mem l,f,x=>Xs.un l f x
 | .sl _ _,f,x=>f x
 | .gone,f,_=>f
@[reducible] def G5.Cu (R:Type):List (Nat×XP)→Type
 |[]=>R
 |(_,p)::l=>p.Cu (G5.Cu R l)
def G5.un{R:Type}:(l:List (Nat×XP))→G5.Cu R l→G5.V l→R
 |[],f,_=>f
 |(_,p)::l,f,x=>G5.un l (p.un f x.1) x.2
@[reducible] def Jl.Cu (R:Type):List BP→Type
 |[]=>R
 |p::l=>p.Cu (Jl.Cu R l)
def Jl.un{R:Type}:(l:List BP)→Jl.Cu R l→Jl.V l→R
 |[],f,_=>f
 |p::l,f,x=>Jl.un l (p.un f x.1) x.2
@[reducible] def BZ.Cu (s:BZ) (R:Type):Type:=G5.Cu (Jl.Cu R s.Gz) s.D3
def BZ.un{R:Type}(s:BZ)(f:s.Cu R)(v:s.V):R:=Jl.un s.Gz (G5.un s.D3 f v.1) v.2
structure Lp (o:BZ) where
 ℓ :Nat
 s:BZ
 F:Nat→s.Cu (Option o.V)
def L0{o:BZ}(nb:Nat):List (Lp o)→Nat→Nat→St→Option o.V
 |[],_,_,_=>none
 |p::l,n,ℓ,σ=>if ℓ =p.ℓ then jump nb p.s (p.s.un (p.F n)) σ else L0 nb l n ℓ σ
inductive XI (C:aW) (c:QN) (fn:Func) (J:Nat→Nat→St→Option c.outs.V):List (Lp c.outs)→Prop
 |nil:XI C c fn J []
 |cons {ℓ :Nat} {s:BZ} {F:Nat→s.Cu (Option c.outs.V)} {l:List (Lp c.outs)} (h0:∀v,s.un (F 0) v=none) (h1:∀n v ω,HZ C c fn (J n) ℓ ω (s.st fn.ntmps v)=s.un (F (n+1)) v) (h:XI C c fn J l):XI C c fn J (⟨ℓ,s,F⟩::l)
def Lp.ls{o:BZ}:List (Lp o)→List Nat
 |[]=>[]
 |p::l=>p.ℓ ::Lp.ls l
theorem AEp{o:BZ}{nb:Nat}:∀{l:List (Lp o)} (n:Nat) {ℓ :Nat} (p:Lp o) (pre:List (Lp o)),ℓ =p.ℓ →(Lp.ls (pre++p::l)).Nodup→L0 nb (pre++p::l) n ℓ =jump nb p.s (p.s.un (p.F n))
 |l,n,ℓ,p,[],e,_=>by
  funext σ
  simp[L0,e]
 |l,n,ℓ,p,q::pre,e,hn=>by
  funext σ
  have hq: ℓ ≠q.ℓ :=by
   intro h;simp only[AVp,Lp.ls,AWf]at hn;refine hn.1 ?_
   rw[←h,e];clear hn h e
   induction pre with
   |nil=>simp[Lp.ls]
   |cons a m ih=>simp[Lp.ls,ih]
  have:=congrFun (AEp (nb:=nb) (l:=l) n p pre e (by grind[Lp.ls,List.nodup_cons])) σ;simp only[AVp,L0,ALo hq];omega
theorem XI.ok{C:aW}{c:QN}{fn:Func}{nb:Nat}(hb:nb=c.ins.Gz.length){L:List (Lp c.outs)}(hn:(Lp.ls L).Nodup):∀{l pre:List (Lp c.outs)},L=pre++l→XI C c fn (L0 nb L) l→gA C c fn (L0 nb L) (Lp.ls l)
 |[],_,_,_=>trivial
 |⟨ℓ,s,F⟩::l,pre,e,.cons h0 h1 h=>by
  refine⟨⟨s,fun n=>s.un (F n),fun n=> ?_,h0,fun n v ω=>h1 n v ω⟩,XI.ok hb hn (pre:=pre++[⟨ℓ,s,F⟩]) (by simp[e]) h⟩;subst hb;rw[e];exact AEp n ⟨ℓ,s,F⟩ pre rfl (by simp_all)
def mkP{P:Program}{T:Jp}(hT:Em P T)(hm:P.follows .mixedOrders=true){f:Nat}{fn:Func}(hf:P.funcs[f]? =some fn)(i o:BZ)(g:i.Cu (Option o.V))(l:List (SP P))(h:List AGF)(L:List (Lp o))(n:Nat)
  (hL:jM fn=Lp.ls L) (hd:decide (Lp.ls L).Nodup=true) (hc:iZ fn ⟨i,o,i.un g⟩=true)
  (hJ:XI ⟨T,RD (SP.l l),CQ h⟩ ⟨i,o,i.un g⟩ fn (L0 i.Gz.length L) L)
  (he:∀ω v,DO ⟨T,RD (SP.l l),CQ h⟩ ⟨i,o,i.un g⟩ fn (L0 i.Gz.length L n) ω v=i.un g v):SP P:=
 ⟨f,⟨i,o,i.un g⟩,AEb (l:=SP.l l) hT hm hf (AAE l) hc (J:=L0 i.Gz.length L) (L:=Lp.ls L) hL (XI.ok rfl (by simp_all) (pre:=[]) rfl hJ) n he⟩
theorem AE{Q:List Bool→Prop}(a:Q [])(b:∀ω,Q (false::ω))(d:∀ω,Q (true::ω)):∀ω,Q ω
 |[]=>a
 |false::ω=>b ω
 |true::ω=>d ω
end Go.Fw
end
section
namespace Go.Fw
open Go.Proofs Go.Shelf Go.RowKit Go.Lib
structure dB (P:Program) (ρ:Ren) (nm:String) (fv:Func):Prop where
 mixed:P.follows .mixedOrders=true
 f22:P.funcs[ρ.f 22]? =some { Body2.n22 ρ with name:=nm }
 n22:(nm== "runtime.NumGoroutine")=false
 f29:P.funcs[ρ.f 29]? =some fv
 n29:(fv.name== "runtime.NumGoroutine")=false
 b29:fv.body.isNone=true
 e29:Extern.findNext fv=none
 x29:Extern.find fv=some (Extern.SlicesOverlaps.overlaps #[(ρ.t 24),(ρ.t 24)] #[(ρ.t 4)])
 t0:P.underlying (ρ.t 0)=some (TypeDesc.tuple #[])
 a0:∀w,(isAgg (ρ.t 0)).run P w= .ok false w
 z0:∀w,(Go.sizeOf (ρ.t 0)).run P w= .ok 1 w
 v0:∀w,(zeroValue (ρ.t 0)).run P w= .ok (Value.tuple #[]) w
 t3:P.underlying (ρ.t 3)=some (TypeDesc.int IntKind.i64)
 a3:∀w,(isAgg (ρ.t 3)).run P w= .ok false w
 z3:∀w,(Go.sizeOf (ρ.t 3)).run P w= .ok 1 w
 v3:∀w,(zeroValue (ρ.t 3)).run P w= .ok (Value.int IntKind.i64 0) w
 t4:P.underlying (ρ.t 4)=some (TypeDesc.bool)
 a4:∀w,(isAgg (ρ.t 4)).run P w= .ok false w
 z4:∀w,(Go.sizeOf (ρ.t 4)).run P w= .ok 1 w
 v4:∀w,(zeroValue (ρ.t 4)).run P w= .ok (Value.bool false) w
 t24:P.underlying (ρ.t 24)=some (TypeDesc.slice (ρ.t 9))
 a24:∀w,(isAgg (ρ.t 24)).run P w= .ok false w
 z24:∀w,(Go.sizeOf (ρ.t 24)).run P w= .ok 1 w
 v24:∀w,(zeroValue (ρ.t 24)).run P w= .ok (Value.slice none 0 0) w
section
variable{P:Program} {ρ:Ren} {nm:String} {fv:Func}
theorem av{w:World}{dT sT ty elem:TypeId}{i0:TypeInfo}{b o AVS AZB Uz i6 n:Nat}{a:Option Addr}{cs:List Value}(hu:P.underlying dT=some (.slice elem))(hi:P.info? elem=some i0)(hn:n=Nat.min Uz AVS)
  (AQq:∀W:World,W=w→(Builtin.firstCells i0.size n (.slice a Uz i6)).run P W= .ok cs.toArray W) (oZ:w.there b o cs.length) (h1:∀v∈cs,v.oneCell' =true):
  (Builtin.copy_ #[dT,sT] ty #[.slice (some ⟨b,o,none⟩) AVS AZB,.slice a Uz i6]).run P w= .ok (goInt n) (w.setCells b o cs):=by
 have fO:=run_storeCells_cells (P:=P) b o cs 0 w (by simpa using fun j hj=>(oZ j hj).1) (by simpa using fun j hj=>(oZ j hj).2) h1;rw[ATu]at fO;have:=AQq w rfl;simp[Builtin.copy_,run_underlying hu,Builtin.lenOf,sizeOf,typeInfo,hi,←hn,this,fO]
set_option maxHeartbeats 4000000 in
set_option maxRecDepth 100000 in
theorem AFI(L:dB P ρ nm fv){k:Nat}(z9:∀w,(Go.sizeOf (ρ.t 9)).run P w= .ok k w)(ad:Option Addr)(n c i:Nat)(va:Option Addr)(vc:Nat)(w:World)(hi:i≤n)(hnc:n≤c):
  Calls P (ρ.f 22) #[.slice ad n c,.int .i64 i,.slice va 0 vc] w fun e w' =>e= .returned (.slice ad n c)∧w' =w:=by
 have t0:=L.t0;have a0:=L.a0;have z0:=L.z0;have v0:=L.v0;have t3:=L.t3;have a3:=L.a3;have z3:=L.z3;have v3:=L.v3;have t4:=L.t4;have a4:=L.a4;have z4:=L.z4;have v4:=L.v4;have t24:=L.t24;have a24:=L.a24;have z24:=L.z24;have v24:=L.v24;have u0:=run_underlying L.t0;have u3:=run_underlying L.t3;have u4:=run_underlying L.t4;have Xp:=run_underlying L.t24;have mixed:=L.mixed
 go_enter L.f22,Body2.n22_ntmps ρ
 cases ad with
 |none=>
  go_wp2
  go_ret
  exact⟨rfl,rfl⟩
 |some a=>
  obtain⟨ab,ao,asp⟩:=a
  go_wp2
  all_goals (go_ret;exact⟨rfl,rfl⟩)
theorem kj{w:World}(tS tR e:TypeId)(ht:P.underlying tS=some (.slice e))(size:Nat)(hz:∀w,(Go.sizeOf e).run P w= .ok size w)
  (a b:Addr) (la ca lb cb:Nat) (bd:a.block≠b.block) (tA tB:TypeId) (kA kB:Nat)
  (hsa:w.shape? a.block=some (tA,kA)) (hsb:w.shape? b.block=some (tB,kB)) (hkA:kA≠0)
  (hfb:w.frozen? b=false) (hfe:w.frozen? { block:=b.block,off:=kB }=false):
  (Extern.SlicesOverlaps.overlaps #[tS,tS] #[tR] #[.slice (some a) la ca,.slice (some b) lb cb]).run P w= .ok (.bool false) w:=by
 have qu:(a.block !=b.block)=true:=by simp_all
 have AbT:(a.block==b.block)=false:=by simp_all
 change Sem.run P (α:=Value) (do
  let some t:=(#[tS,tS]:Array TypeId)[0]?|stuck "slices.overlaps: no parameter types"
  let .slice elem←underlying t|stuck "slices.overlaps: slice type expected"
  let size←sizeOf elem
  match(some a:Option Addr),(some b:Option Addr)with
  |some a,some b=>
   if la=0∨lb=0∨size=0 then pure (Value.bool false)
   else if a.block !=b.block&&(←frozen a)&&(←frozen b)then unsupported .addressObserved
   else do
    if a.block !=b.block then do
     noView a;noView b
     if←mayBeOne a b then return Value.bool ((←choose (.extern "sameAddr.stringBytes" 2))==1)
    pure (Value.bool (a.block==b.block&&a.off<b.off+lb*size&&b.off<a.off+la*size))
  |_,_=>pure (Value.bool false)) w=_
 by_cases h0:la=0∨lb=0∨size=0
 ·simp[run_underlying ht,hz,h0]
 ·cases kA with
  |zero=>omega
  |succ kA=>
   cases hfa:w.frozen? a<;>cases hfae:w.frozen? { block:=a.block,off:=kA+1 }<;>
    simp[run_underlying ht,hz,h0,qu,AbT,frozen,noView,viewAt,mayBeOne,stringish,shape,Sem.run,hsa,hsb,hfb,hfe,hfa,hfae]
set_option maxHeartbeats 4000000 in
set_option maxRecDepth 100000 in
theorem AC6(L:dB P ρ nm fv){i0:TypeInfo}(vd:P.info? (ρ.t 9)=some i0)(hs0:0<i0.size)(b off n c i:Nat)(va:Addr)(m vc:Nat)(cs vs:List Value)(w:World)(hi:i<n)(hm:0<m)(S_:n+m≤c)(Xx:n+m≤Dw)(hvb:va.block≠b)
  (cX:cs.length=n*i0.size) (hvl:vs.length=m*i0.size) (xW:Bc w b off cs) (oZ:w.there b off ((n+m)*i0.size))
  (VO:∀W:World,W.heap[va.block]? =w.heap[va.block]?→(Builtin.firstCells i0.size m (.slice (some va) m vc)).run P W= .ok vs.toArray W) (h1c:∀v∈cs,v.oneCell' =true) (h1v:∀v∈vs,v.oneCell' =true)
  (tA tB:TypeId) (kA kB:Nat) (hsa:w.shape? va.block=some (tA,kA)) (hsb:w.shape? b=some (tB,kB)) (hkA:kA≠0) (hfe:w.frozen? ⟨b,kB,none⟩=false):
  Calls P (ρ.f 22) #[.slice (some ⟨b,off,none⟩) n c,.int .i64 i,.slice (some va) m vc] w fun e w' =>
   e= .returned (.slice (some ⟨b,off,none⟩) (n+m) c)∧ ∃W:World,W.heap=w.heap∧Grown w W∧w' =(W.setCells b (off+(i+m)*i0.size) (cs.drop (i*i0.size))).setCells b (off+i*i0.size) vs:=by
 have t0:=L.t0;have a0:=L.a0;have z0:=L.z0;have v0:=L.v0;have t3:=L.t3;have a3:=L.a3;have z3:=L.z3;have v3:=L.v3;have t4:=L.t4;have a4:=L.a4;have z4:=L.z4;have v4:=L.v4;have t24:=L.t24;have a24:=L.a24;have z24:=L.z24;have v24:=L.v24;have u0:=run_underlying L.t0;have u3:=run_underlying L.t3;have u4:=run_underlying L.t4;have Xp:=run_underlying L.t24;have z9:∀w,(Go.sizeOf (ρ.t 9)).run P w= .ok i0.size w:=fun w=>by simp[sizeOf,typeInfo,vd]
 have mixed:=L.mixed;have ADp:=Xx;simp only[Dw]at ADp;have hz1: ¬((m:Int)=0):=by omega
 have hz2: ¬((i:Int)=(n:Int)):=by omega
 generalize hk:i0.size=k at*
 have hmul:(i+m)*k≤(n+m)*k:=AOi _ (by omega);have ADf:i*k≤n*k:=AOi _ (by omega);have Lu:(i+m)*k<(n+m)*k:=Nat.mul_lt_mul_of_pos_right (by omega) hs0;have sj:(n+m)*k=n*k+m*k:=ATm ..;have him:(i+m)*k=i*k+m*k:=ATm ..;have hov:∀lb cb,(callFunc (ρ.f 29) #[.slice (some va) m vc,.slice (some ⟨b,off+(i+m)*k,none⟩) lb cb]).run P w= .ok (.value (.bool false)) w:=fun lb cb=>by
  rw[run_callFunc_extern L.f29 L.n29 L.b29 L.e29 L.x29,
   kj (ρ.t 24) (ρ.t 4) (ρ.t 9) L.t24 k z9 va ⟨b,off+(i+m)*k,none⟩ m vc lb cb hvb tA tB kA kB hsa hsb hkA (oZ _ Lu).2 hfe]
  rfl
 have hdl:(cs.drop (i*k)).length=(n-i)*k:=by rw[AVx,cX,AVk]
 have hw1:IntKind.i64.wrap ((i:Int)+(m:Int))=(i:Int)+(m:Int):=by rw[IntKind.wrap_i64];omega
 have hb1:(0:Int)≤(i:Int)+(m:Int):=by omega
 have PY:i≤n:=by omega
 have htn:((i:Int)+(m:Int)).toNat=i+m:=by omega
 have hb2: ¬(c=i+m):=by omega
 have hb3:(i:Int)≤(n:Int)+(m:Int):=by omega
 have hb4: ¬(c=i):=by omega
 have AWz:∀ty dc sc,(Builtin.copy_ #[(ρ.t 24),(ρ.t 24)] ty #[.slice (some ⟨b,off+(i+m)*k,none⟩) (n+m-(i+m)) dc,.slice (some ⟨b,off+i*k,none⟩) (n+m-i) sc]).run P w.drew= .ok (goInt (n-i:Nat)) (w.drew.setCells b (off+(i+m)*k) (cs.drop (i*k))):=fun ty dc sc=>
  av (n:=n-i) L.t24 vd (by simp only[Nat.min_def];split<;>omega) (fun W hW=>by
   subst hW;simp only[Builtin.firstCells,hk];have hl:Bc w.drew b (off+i*k) (cs.drop (i*k)):=fun j v hj=>by
    rw[AWB]at hj;have:=xW _ v hj
    rwa [←ATq]at this
   rw[←hdl];exact Lf hl) (fun j hj=>by
    rw[hdl]at hj;have:(i+m)*k+j<(n+m)*k:=by
     rw[sj,him];have:(n-i)*k=n*k-i*k:=AVk ..;omega
    have:=oZ _ this;rw[←ATq]at this;exact this) (fun v hv=>h1c v (AVC hv))
 obtain⟨W1,hW1⟩:∃W1,W1=w.drew.setCells b (off+(i+m)*k) (cs.drop (i*k)):=⟨_,rfl⟩;have Aao:W1.heap[va.block]? =w.heap[va.block]?:=by rw[hW1];exact DP _ _ _ _ _ hvb
 have ATE:W1.there b (off+i*k) vs.length:=fun j hj=>by
  rw[hvl]at hj;have h0:=oZ (i*k+j) (by omega);rw[←ATq]at h0;rw[hW1];refine⟨?_,?_⟩
  ·refine isSome_setCells b _ _ _ (fun t ht=> ?_) _ h0.1
   rw[hdl]at ht;have h2:(i+m)*k+t<(n+m)*k:=by
    rw[sj,him];have:(n-i)*k=n*k-i*k:=AVk ..;omega
   have:=(oZ _ h2).1;rw[←ATq]at this;exact this
  ·rw[World.frozen?_setCells]
   exact h0.2
 have Abc:∀(W:World),(∀x,W.cell? x=W1.cell? x)→(∀x,W.frozen? x=W1.frozen? x)→W.heap=W1.heap→ ∀ty dc,(Builtin.copy_ #[(ρ.t 24),(ρ.t 24)] ty #[.slice (some ⟨b,off+i*k,none⟩) (n+m-i) dc,.slice (some va) m vc]).run P W= .ok (goInt m) (W.setCells b (off+i*k) vs):=fun W hWc hWf tP ty dc=>
  av (n:=m) L.t24 vd (by simp only[Nat.min_def];split<;>omega) (fun V hV=>by subst hV;rw[hk];exact VO _ (by rw[tP];exact Aao)) (fun j hj=>⟨by rw[hWc];exact(ATE j hj).1,by rw[hWf];exact(ATE j hj).2⟩) h1v
 rw[←hW1]at AWz;obtain⟨vab,vao,vas⟩:=va;clear hmul ADf Lu sj him oZ ATE xW hdl
 go_enter L.f22,Body2.n22_ntmps ρ
 go_wp2_with (simp only[hov])
 go_region_law_o (refine step_copy_runI rfl _ _ (ρ.t 24) (ρ.t 24) rfl _ _ (by simp[Act.eval,Act.put]) (by simp[Act.eval,Act.put]) (AWz _ _ _) ?_)
 go_wp2_with (at_builtin;refine wpList_copy_runI _ rfl _ _ (ρ.t 24) (ρ.t 24) rfl _ _ rfl rfl (Abc _ (fun _=>rfl) (fun _=>rfl) rfl _ _) ?_)
 go_ret
 first|exact⟨rfl,_,rfl,⟨rfl,rfl,rfl,AQE _⟩,rfl⟩|exact⟨rfl,w.drew,rfl,⟨rfl,rfl,rfl,AQE _⟩,by first|rfl|rw[hW1]⟩
set_option maxHeartbeats 4000000 in
set_option maxRecDepth 100000 in
theorem AF7(L:dB P ρ nm fv){i0:TypeInfo}(vd:P.info? (ρ.t 9)=some i0)(b off n c:Nat)(va:Addr)(m vc:Nat)(vs:List Value)(w:World)(hm:0<m)(S_:n+m≤c)
  (oZ:w.there b (off+n*i0.size) vs.length) (hn:ju P w i0.size m (.slice (some va) m vc) vs) (h1v:∀v∈vs,v.oneCell' =true):
  Calls P (ρ.f 22) #[.slice (some ⟨b,off,none⟩) n c,.int .i64 n,.slice (some va) m vc] w fun e w' =>
   e= .returned (.slice (some ⟨b,off,none⟩) (n+m) c)∧w' =w.setCells b (off+n*i0.size) vs:=by
 have t0:=L.t0;have a0:=L.a0;have z0:=L.z0;have v0:=L.v0;have t3:=L.t3;have a3:=L.a3;have z3:=L.z3;have v3:=L.v3;have t4:=L.t4;have a4:=L.a4;have z4:=L.z4;have v4:=L.v4;have t24:=L.t24;have a24:=L.a24;have z24:=L.z24;have v24:=L.v24;have u0:=run_underlying L.t0;have u3:=run_underlying L.t3;have u4:=run_underlying L.t4;have Xp:=run_underlying L.t24;have z9:∀w,(Go.sizeOf (ρ.t 9)).run P w= .ok i0.size w:=fun w=>by simp[sizeOf,typeInfo,vd]
 have mixed:=L.mixed;have hz1: ¬((m:Int)=0):=by omega
 have lM:∀ty,(Builtin.append_ #[(ρ.t 24),(ρ.t 24)] ty #[.slice (some ⟨b,off,none⟩) n c,.slice (some va) m vc]).run P w=_:=fun ty=>
  fE (ts:= #[(ρ.t 24),(ρ.t 24)]) (ty:=ty) rfl rfl L.t24 (.inl ⟨_,L.t24⟩) vd rfl hn S_ oZ h1v
 clear oZ hn
 generalize hk:i0.size=k at*
 obtain⟨vab,vao,vas⟩:=va
 go_enter L.f22,Body2.n22_ntmps ρ
 go_wp2_with (at_builtin;refine Lib.wpList_append_run _ rfl _ _ (ρ.t 24) (ρ.t 24) rfl _ _ rfl rfl _ _ (lM _) ?_)
 go_ret
 exact⟨rfl,rfl⟩
set_option maxHeartbeats 4000000 in
set_option maxRecDepth 100000 in
theorem AEZ(L:dB P ρ nm fv){i0:TypeInfo}{z:Value}(vd:P.info? (ρ.t 9)=some i0)(hz:i0.zero=some z)(hby:i0.bytes≤512)(ad:Option Addr)(n c:Nat)(va:Addr)(m vc:Nat)(cs vs:List Value)(w:World)(hm:0<m)(hnc:n≤c)(S_:c<n+m)(Xx:n+m≤Dw)
  (ho:∀w',w'.heap=w.heap→(Builtin.firstCells i0.size n (.slice ad n c)).run P w' = .ok cs.toArray w') (hn:ju P w i0.size m (.slice (some va) m vc) vs):
  Calls P (ρ.f 22) #[.slice ad n c,.int .i64 n,.slice (some va) m vc] w fun e w' =>
   e= .returned (.slice (some ⟨w.heap.size,0,none⟩) (n+m) (grownCap w (n+m) c (ρ.t 9)))∧
   w' =w.drew.alloc (.cells (cs.toArray++vs.toArray++Builtin.zeroCells z.cells (grownCap w (n+m) c (ρ.t 9)-(n+m))) (ρ.t 9)):=by
 have t0:=L.t0;have a0:=L.a0;have z0:=L.z0;have v0:=L.v0;have t3:=L.t3;have a3:=L.a3;have z3:=L.z3;have v3:=L.v3;have t4:=L.t4;have a4:=L.a4;have z4:=L.z4;have v4:=L.v4;have t24:=L.t24;have a24:=L.a24;have z24:=L.z24;have v24:=L.v24;have u0:=run_underlying L.t0;have u3:=run_underlying L.t3;have u4:=run_underlying L.t4;have Xp:=run_underlying L.t24;have z9:∀w,(Go.sizeOf (ρ.t 9)).run P w= .ok i0.size w:=fun w=>by simp[sizeOf,typeInfo,vd]
 have mixed:=L.mixed;have hz1: ¬((m:Int)=0):=by omega
 have lM:∀ty,(Builtin.append_ #[(ρ.t 24),(ρ.t 24)] ty #[.slice ad n c,.slice (some va) m vc]).run P w=_:=fun ty=>
  bo (ts:= #[(ρ.t 24),(ρ.t 24)]) (ty:=ty) rfl rfl L.t24 (.inl ⟨_,L.t24⟩) vd hz rfl ho hn S_ Xx hby
 clear hn ho
 obtain⟨W1,hW1⟩:∃W1,W1=w.drew.alloc (.cells (cs.toArray++vs.toArray++Builtin.zeroCells z.cells (grownCap w (n+m) c (ρ.t 9)-(n+m))) (ρ.t 9)):=⟨_,rfl⟩;rw[←hW1]at lM⊢;clear hW1
 generalize hk:i0.size=k at*
 obtain⟨vab,vao,vas⟩:=va
 go_enter L.f22,Body2.n22_ntmps ρ
 cases ad with
 |none=>
  go_wp2_with (at_builtin;refine Lib.wpList_append_run _ rfl _ _ (ρ.t 24) (ρ.t 24) rfl _ _ rfl rfl _ _ (lM _) ?_)
  all_goals (go_ret;exact⟨rfl,rfl⟩)
 |some a=>
  obtain⟨ab,ao,asp⟩:=a
  go_wp2_with (at_builtin;refine Lib.wpList_append_run _ rfl _ _ (ρ.t 24) (ρ.t 24) rfl _ _ rfl rfl _ _ (lM _) ?_)
  all_goals (go_ret;exact⟨rfl,rfl⟩)
set_option maxHeartbeats 4000000 in
set_option maxRecDepth 100000 in
theorem ALp(L:dB P ρ nm fv){i0:TypeInfo}{z:Value}(vd:P.info? (ρ.t 9)=some i0)(hz:i0.zero=some z)(hzl:z.cells.size=i0.size)(hs0:0<i0.size)(hby:i0.bytes≤512)(b off n c i:Nat)(va:Addr)(m vc:Nat)(cs vs:List Value)(w:World)(hi:i<n)(hm:0<m)(hnc:n≤c)(S_:c<n+m)(Xx:n+m≤Dw)
  (cX:cs.length=n*i0.size) (hvl:vs.length=m*i0.size) (hbw:b<w.heap.size) (xW:Bc w b off cs) (hvw:va.block<w.heap.size)
  (VO:∀W:World,W.heap[va.block]? =w.heap[va.block]?→(Builtin.firstCells i0.size m (.slice (some va) m vc)).run P W= .ok vs.toArray W) (h1c:∀v∈cs,v.oneCell' =true) (h1v:∀v∈vs,v.oneCell' =true):
  Calls P (ρ.f 22) #[.slice (some ⟨b,off,none⟩) n c,.int .i64 i,.slice (some va) m vc] w fun e w' =>
   e= .returned (.slice (some ⟨w.heap.size,0,none⟩) (n+m) (grownCap w (n+m) c (ρ.t 9)))∧
   ∃W:World,W.heap=w.heap.push (.cells ((cs.take (i*i0.size)).toArray++Builtin.zeroCells z.cells (n+m-i)++Builtin.zeroCells z.cells (grownCap w (n+m) c (ρ.t 9)-(n+m))) (ρ.t 9))∧W.os=w.os∧W.tape=w.tape∧W.output=w.output∧
    w' =(W.setCells w.heap.size (i*i0.size) vs).setCells w.heap.size ((i+m)*i0.size) (cs.drop (i*i0.size)):=by
 have t0:=L.t0;have a0:=L.a0;have z0:=L.z0;have v0:=L.v0;have t3:=L.t3;have a3:=L.a3;have z3:=L.z3;have v3:=L.v3;have t4:=L.t4;have a4:=L.a4;have z4:=L.z4;have v4:=L.v4;have t24:=L.t24;have a24:=L.a24;have z24:=L.z24;have v24:=L.v24;have u0:=run_underlying L.t0;have u3:=run_underlying L.t3;have u4:=run_underlying L.t4;have Xp:=run_underlying L.t24;have z9:∀w,(Go.sizeOf (ρ.t 9)).run P w= .ok i0.size w:=fun w=>by simp[sizeOf,typeInfo,vd]
 have mixed:=L.mixed;have ADp:=Xx;simp only[Dw]at ADp;have hz1: ¬((m:Int)=0):=by omega
 have hz2: ¬((i:Int)=(n:Int)):=by omega
 have hz3:(c:Int)<(n:Int)+(m:Int):=by omega
 have hkk:(n:Int)+(m:Int)-(i:Int)=((n+m-i:Nat):Int):=by omega
 have hik:i+(n+m-i)=n+m:=by omega
 have ADf:i*i0.size≤n*i0.size:=AOi _ (by omega);have sj:(n+m)*i0.size=n*i0.size+m*i0.size:=ATm ..;have him:(i+m)*i0.size=i*i0.size+m*i0.size:=ATm ..;have hni:(n-i)*i0.size=n*i0.size-i*i0.size:=AVk ..;have hold:(Builtin.firstCells i0.size i (.slice (some ⟨b,off,none⟩) i c)).run P w.drew= .ok (cs.take (i*i0.size)).toArray w.drew:=by
  simp only[Builtin.firstCells];have hl:(cs.take (i*i0.size)).length=i*i0.size:=by rw[AV0];omega
  have hca:Bc w.drew b off (cs.take (i*i0.size)):=fun j v hj=>by
   rw[AWG]at hj;split at hj
   ·exact xW j v hj
   ·cases hj
  conv=>lhs;rw[←hl]
  exact Lf hca
 have AUF:(n+m)*i0.bytes≤140737488355328:=by
  have:(n+m)*i0.bytes≤Dw*512:=AXt Xx hby;simp only[Dw]at this;omega
 have AM1:(n+m-i)*i0.bytes≤281474976710656:=by
  have:(n+m-i)*i0.bytes≤(n+m)*i0.bytes:=AOi _ (by omega);omega
 have hrz:∀ty,(Builtin.append_ #[(ρ.t 24),(ρ.t 3)] ty #[.slice (some ⟨b,off,none⟩) i c,.int .i64 ((n:Int)+(m:Int)-(i:Int))]).run P w=
   .ok (.slice (some ⟨w.heap.size,0,none⟩) (n+m) (grownCap w (n+m) c (ρ.t 9))) (w.drew.alloc (.cells ((cs.take (i*i0.size)).toArray++Builtin.zeroCells z.cells (n+m-i)++Builtin.zeroCells z.cells (grownCap w (n+m) c (ρ.t 9)-(n+m))) (ρ.t 9))):=fun ty=>by
  have h:=Lib.run_append_grow_zeros w (ρ.t 24) (ρ.t 3) ty (ρ.t 9) i0 z .i64 .i64 L.t24 L.t3 vd hz (some ⟨b,off,none⟩) i c (cs.take (i*i0.size)) hold (n+m-i) (by omega) hs0 (by omega) (by omega) AM1 (by rw[hik];exact growslice_fits S_ AUF);rw[hik]at h;rw[hkk];exact h
 have hGn:n+m≤grownCap w (n+m) c (ρ.t 9):=grownCap_ge w _ _ _;have AYo:grownCap w (n+m) c (ρ.t 9)≤9223372036854775807:=by
  have:=grownCap_le_maxLen w (n+m) c (ρ.t 9) (by unfold maxLen;omega);unfold maxLen at this;omega
 obtain⟨G,hG⟩:∃G,G=grownCap w (n+m) c (ρ.t 9):=⟨_,rfl⟩;rw[←hG]at hrz hGn AYo⊢;obtain⟨ROW,ACa⟩:∃ROW:Array Value,ROW=(cs.take (i*i0.size)).toArray++Builtin.zeroCells z.cells (n+m-i)++Builtin.zeroCells z.cells (G-(n+m)):=⟨_,rfl⟩;rw[←ACa]at hrz⊢;have hRl:(n+m)*i0.size≤ROW.size:=by
  rw[ACa];simp only[AXb,AXc,size_zeroCells,hzl,AV0];have e1:(n+m-i)*i0.size=(n+m)*i0.size-i*i0.size:=AVk ..;omega
 obtain⟨W1,hW1⟩:∃W1,W1=w.drew.alloc (.cells ROW (ρ.t 9)):=⟨_,rfl⟩;rw[←hW1]at hrz;have AVJ:W1.heap[w.heap.size]? =some (.cells ROW (ρ.t 9)):=by
  rw[hW1]
  show(w.heap.push (.cells ROW (ρ.t 9)))[w.heap.size]? =_
  simp
 have AES:∀x,x<w.heap.size→W1.heap[x]? =w.heap[x]?:=fun x hx=>by rw[hW1];exact Iz hx
 have hN:∀o l,o+l≤(n+m)*i0.size→W1.there w.heap.size o l:=fun o l h=>Uc (k:=1) AVJ (by omega) (WQ _)
 have hdl:(cs.drop (i*i0.size)).length=(n-i)*i0.size:=by rw[AVx,cX,hni]
 have AZA:∀(W:World),(∀x,W.cell? x=W1.cell? x)→(∀x,W.frozen? x=W1.frozen? x)→W.heap=W1.heap→ ∀ty dc,(Builtin.copy_ #[(ρ.t 24),(ρ.t 24)] ty #[.slice (some ⟨w.heap.size,i*i0.size,none⟩) (n+m-i) dc,.slice (some va) m vc]).run P W= .ok (goInt m) (W.setCells w.heap.size (i*i0.size) vs):=fun W hWc hWf tP ty dc=>
  av (n:=m) L.t24 vd (by simp only[Nat.min_def];split<;>omega) (fun V hV=>by subst hV;exact VO _ (by rw[tP];exact AES _ hvw)) (fun j hj=>by
   have:=hN (i*i0.size) (m*i0.size) (by omega) j (by omega);exact⟨by rw[hWc];exact this.1,by rw[hWf];exact this.2⟩) h1v
 have AVt:∀(W:World),(∀x,W.cell? x=(W1.setCells w.heap.size (i*i0.size) vs).cell? x)→(∀x,W.frozen? x=(W1.setCells w.heap.size (i*i0.size) vs).frozen? x)→W.heap=(W1.setCells w.heap.size (i*i0.size) vs).heap→ ∀ty dc sc,(Builtin.copy_ #[(ρ.t 24),(ρ.t 24)] ty #[.slice (some ⟨w.heap.size,(i+m)*i0.size,none⟩) (n+m-(i+m)) dc,.slice (some ⟨b,off+i*i0.size,none⟩) (n-i) sc]).run P W= .ok (goInt (n-i:Nat)) (W.setCells w.heap.size ((i+m)*i0.size) (cs.drop (i*i0.size))):=fun W hWc hWf tP ty dc sc=>
  av (n:=n-i) L.t24 vd (by simp only[Nat.min_def];split<;>omega) (fun V hV=>by
   subst hV;simp only[Builtin.firstCells];rw[←hdl];refine Lf fun j v hj=> ?_
   rw[AWB]at hj;have h3:=xW _ v hj;rw[←ATq]at h3;rw[←h3];refine World.cell?_of_block (a:=⟨b,off+i*i0.size+j,none⟩) ?_
   rw[tP,DP _ _ _ _ _ (show b≠w.heap.size by omega)];exact AES b hbw) (fun j hj=>by
   have hb:W1.there w.heap.size ((i+m)*i0.size) (cs.drop (i*i0.size)).length:=hN _ _ (by omega);refine⟨?_,?_⟩
   ·rw[hWc]
    exact isSome_setCells _ _ _ _ (fun t ht=>(hN (i*i0.size) vs.length (by omega) t ht).1) _ (hb j hj).1
   ·rw[hWf,World.frozen?_setCells]
    exact(hb j hj).2) (fun v hv=>h1c v (AVC hv))
 generalize hk:i0.size=k at*
 have hE1:∀x,((w.alloc (.cells ROW (ρ.t 9))).drew).cell? x=W1.cell? x:=fun x=>by rw[hW1];rfl
 have hE2:∀x,((w.alloc (.cells ROW (ρ.t 9))).drew).frozen? x=W1.frozen? x:=fun x=>by rw[hW1];rfl
 have hE3:((w.alloc (.cells ROW (ρ.t 9))).drew).heap=W1.heap:=by rw[hW1];rfl
 have hF1:∀x,(((w.alloc (.cells ROW (ρ.t 9))).drew.setCells w.heap.size (i*k) vs).drew).cell? x=(W1.setCells w.heap.size (i*k) vs).cell? x:=fun x=>by rw[hW1];rfl
 have hF2:∀x,(((w.alloc (.cells ROW (ρ.t 9))).drew.setCells w.heap.size (i*k) vs).drew).frozen? x=(W1.setCells w.heap.size (i*k) vs).frozen? x:=fun x=>by rw[hW1];rfl
 have hF3:(((w.alloc (.cells ROW (ρ.t 9))).drew.setCells w.heap.size (i*k) vs).drew).heap=(W1.setCells w.heap.size (i*k) vs).heap:=by rw[hW1];rfl
 have hw1:IntKind.i64.wrap ((i:Int)+(m:Int))=(i:Int)+(m:Int):=by rw[IntKind.wrap_i64];omega
 have hb1:(0:Int)≤(i:Int)+(m:Int):=by omega
 have PY:i≤n:=by omega
 have htn:((i:Int)+(m:Int)).toNat=i+m:=by omega
 have hb3:(i:Int)≤(n:Int):=by omega
 have hGi: ¬(G=i):=by omega
 have Ado: ¬(G=i+m):=by omega
 have hci: ¬(c=i):=by omega
 subst hW1;clear hkk hik hold ACa hG hRl ADf sj him hni hdl hN xW VO AVJ AES AUF AM1;obtain⟨vab,vao,vas⟩:=va
 go_enter L.f22,Body2.n22_ntmps ρ
 go_wp2_with (first
  |(at_builtin;refine Lib.wpList_append_run _ rfl _ _ _ _ rfl _ _ rfl rfl _ _ (hrz _) ?_)
  |(at_builtin;refine wpList_copy_runI _ rfl _ _ (ρ.t 24) (ρ.t 24) rfl _ _ rfl rfl (AZA _ hE1 hE2 hE3 _ _) ?_)
  |(at_builtin;refine wpList_copy_runI _ rfl _ _ (ρ.t 24) (ρ.t 24) rfl _ _ rfl rfl (AVt _ (fun _=>rfl) (fun _=>rfl) rfl _ _ _) ?_))
 go_region_law_o (refine step_copy_runI rfl _ _ (ρ.t 24) (ρ.t 24) rfl (.slice (some ⟨w.heap.size,(i+m)*k,none⟩) (n+m-(i+m)) (G-(i+m))) (.slice (some ⟨b,off+i*k,none⟩) (n-i) (c-i)) (by simp[Act.eval,Act.put]) (by simp[Act.eval,Act.put]) (AVt _ hF1 hF2 hF3 (ρ.t 3) (G-(i+m)) (c-i)) ?_)
 go_wp2
 go_ret
 refine⟨rfl,((w.alloc (.cells ROW (ρ.t 9))).drew).drew,rfl,rfl,rfl,rfl,?_⟩;rw[drew_setCells]
end
end Go.Fw
end
section
namespace Go.Fw
open Go.Proofs Go.Shelf Go.RowKit Go.Lib
def Flat(w:World)(r:Ty)(css:List (List Value))(rows:List r.D):Prop:=
 css.length=rows.length∧(∀c∈css,c.length=r.n)∧ ∀(i:Nat) cs y,css[i]? =some cs→rows[i]? =some y→Rd w (fun _=>False) r cs y
theorem Flat.to{w w':World}{r:Ty}(hf:r.flat=true){css:List (List Value)}{rows:List r.D}(h:Flat w r css rows):Flat w' r css rows:=
 ⟨h.1,h.2.1,fun i cs y a b=>eI hf (h.2.2 i cs y a b)⟩
theorem Flat.take{w:World}{r:Ty}{css:List (List Value)}{rows:List r.D}(h:Flat w r css rows)(n:Nat):Flat w r (css.take n) (rows.take n):=by
 refine⟨by simp[h.1],fun c hc=>h.2.1 c (AXC hc),fun i cs y a b=> ?_⟩;rw[AWG]at a b;split at a
 ·rename_i hi
  rw[ALP hi]at b;exact h.2.2 i cs y a b
 simp_all
theorem Flat.drop{w:World}{r:Ty}{css:List (List Value)}{rows:List r.D}(h:Flat w r css rows)(n:Nat):Flat w r (css.drop n) (rows.drop n):=by
 refine⟨by simp[h.1],fun c hc=>h.2.1 c (AVC hc),fun i cs y a b=> ?_⟩;rw[AWB]at a b;exact h.2.2 _ cs y a b
theorem Flat.append{w:World}{r:Ty}{css sI:List (List Value)}{rows AW4:List r.D}(h:Flat w r css rows)(k:Flat w r sI AW4):Flat w r (css++sI) (rows++AW4):=by
 refine⟨by simp[h.1,k.1],fun c hc=>(AOl.1 hc).elim (h.2.1 c) (k.2.1 c),fun i cs y a b=> ?_⟩;by_cases hi:i<rows.length
 ·rw[AND (by rw[h.1];omega)]at a
  rw[AND hi]at b;exact h.2.2 i cs y a b
 ·rw[ANg (by rw[h.1];omega)]at a
  rw[ANg (by omega)]at b;rw[h.1]at a;exact k.2.2 _ cs y a b
theorem Flat.one{w:World}{r:Ty}(hf:r.flat=true){css:List (List Value)}{rows:List r.D}(h:Flat w r css rows):∀v∈css.flatten,v.oneCell' =true:=by
 intro v hv;obtain⟨c,hc,hv⟩:=ASW.1 hv;obtain⟨i,hi,rfl⟩:=AQQ hc;have h1:=h.1;exact ka (iJ (S:=fun _=>False) (d:=0) hf (h.2.2 i _ _ (ALR hi) (ALR (by omega)))) v hv
theorem Flat.at{w:World}{S:Nat→Prop}{d:Nat}{r:Ty}(hf:r.flat=true){css:List (List Value)}{rows:List r.D}(h:Flat w r css rows):FL w S d r css rows (List.replicate rows.length []):=FL.flat hf h.1 h.2.1 h.2.2
theorem AIZ{w:World}{S:Nat→Prop}{r:Ty}(hf:r.flat=true){css:List (List Value)}{rows:List r.D}{Fs:List ABJ}{d:Nat}(h:FL w S d r css rows Fs):Flat w r css rows:=by
 refine⟨h.1,h.2.2.1,fun i cs y a b=> ?_⟩;have hi:=(AMG.1 b).1;have h2:=h.2.1;exact eI hf (Xh (h.2.2.2 i cs y (Fs[i]'(by omega)) a b (ALR _)))
theorem Flat.tL{w:World}{r:Ty}{css:List (List Value)}{rows:List r.D}(h:Flat w r css rows)(n:Nat)(hn:n≤rows.length):css.flatten.take (n*r.n)=(css.take n).flatten:=by
 have h1:((css.take n).flatten).length=n*r.n:=by
  rw[Hl (n:=r.n) (fun c hc=>h.2.1 c (AXC hc)),AV0,h.1,Nat.min_eq_left hn]
 grind[List.take_append_drop,List.flatten_append,List.take_of_length_le]
theorem Flat.s_{w:World}{r:Ty}{css:List (List Value)}{rows:List r.D}(h:Flat w r css rows)(n:Nat)(hn:n≤rows.length):css.flatten.drop (n*r.n)=(css.drop n).flatten:=by
 have h1:((css.take n).flatten).length=n*r.n:=by
  rw[Hl (n:=r.n) (fun c hc=>h.2.1 c (AXC hc)),AV0,h.1,Nat.min_eq_left hn]
 grind[List.take_append_drop,List.flatten_append,List.drop_eq_nil_of_le]
theorem jc{w:World}{S:Nat→Prop}{d b o cap:Nat}{r:Ty}{rows:List r.D}{css:List (List Value)}{Fs:List ABJ}{arr:Array Value}{ty:TypeId}{fr:ADE}(h:FL w S d r css rows Fs)(hb:w.heap[b]? =some (.cells arr ty fr))
  (hc:Bc w b o css.flatten) (yO:rows.length≤cap) (PN:o+cap*r.n≤arr.size) (hu:xM fr (arr.size+mk r)):Ow w S (d+1) (.sl r) [.slice (some ⟨b,o,none⟩) rows.length cap] rows (b::Fs.flatten):=by
 simp only[Ow];refine⟨_,cap,rfl,yO,.inr ⟨b,o,arr,ty,fr,Fs,rfl,hb,PN,hu,rfl,h.2.1,fun j q G hq hG=> ?_⟩⟩;have hj:=(AMG.1 hq).1;have h1:=h.1;have qq:j<css.length:=by omega
 refine⟨css[j],h.2.2.1 _ (AMk _),fun x u hx=> ?_,h.2.2.2 j _ _ _ (ALR qq) hq hG⟩;have hxl:=(AMG.1 hx).1;rw[h.2.2.1 _ (AMk _)]at hxl;have:=Ya (n:=r.n) (css:=css) (ex:=[]) (i:=j) h.2.2.1 (ALR qq) hxl;rw[AM3,hx]at this;have:=hc _ _ this;grind
theorem mL{w:World}{b o:Nat}{A V B:List Value}{arr:Array Value}{ty:TypeId}{fr:ADE}(hb:w.heap[b]? =some (.cells arr ty fr))(hs:o+(A.length+V.length)+B.length≤arr.size)(hA:Bc w b o A):
  ∃KG,((w.setCells b (o+(A.length+V.length)) B).setCells b (o+A.length) V).heap[b]? =some (.cells KG ty fr)∧KG.size=arr.size∧Bc ((w.setCells b (o+(A.length+V.length)) B).setCells b (o+A.length) V) b o (A++V++B):=by
 have h1:=Fj B (o+(A.length+V.length)) w b arr ty fr hb;have z1:(FJ arr (o+(A.length+V.length)) B).size=arr.size:=Fh ..;have h2:=Fj V (o+A.length) _ b _ ty fr h1;grind[Ny,Fh,Bc.append,UA,List.length_append]
theorem ic{w:World}{b o:Nat}{A V B:List Value}{arr:Array Value}{ty:TypeId}{fr:ADE}(hb:w.heap[b]? =some (.cells arr ty fr))(hs:o+(A.length+V.length)+B.length≤arr.size)(hA:Bc w b o A):
  ∃KG,((w.setCells b (o+A.length) V).setCells b (o+(A.length+V.length)) B).heap[b]? =some (.cells KG ty fr)∧KG.size=arr.size∧Bc ((w.setCells b (o+A.length) V).setCells b (o+(A.length+V.length)) B) b o (A++V++B):=by
 have h1:=Fj V (o+A.length) w b arr ty fr hb;have z1:(FJ arr (o+A.length) V).size=arr.size:=Fh ..;have h2:=Fj B (o+(A.length+V.length)) _ b _ ty fr h1;grind[Ny,Fh,Bc.append,UA,List.length_append]
@[reducible] def ry (r:Ty):BZ:=⟨[(0,.c (.ref 0)),(1,.c (.v (.int .i64))),(2,.c (.sl false r))],[.sl 1 r]⟩
@[reducible] def y9 (r:Ty):BZ:=⟨[(0,.c (.ref 1))],[.gone,.sl 1 r]⟩
theorem AAI{P:Program}{f:Nat}{args:Array Value}{E:Env}{w:World}{r:Ty}{d:Nat}(hd:1≤d){F:ABJ}(hS:Sep E w F){l:List r.D}{Q:Ending→World→Prop}
  (h:Calls P f args w Q) (hq:∀e w',Q e w'→ ∃v F',e= .returned v∧isSlice v=true∧Ow w' E.S d (.sl r) [v] l F'∧F'.Nodup∧(∀c∈F',¬E.T c∧c<w'.heap.size)∧(∀c,E.T c→w'.heap[c]? =w.heap[c]?)∧Grown w w'):
  Calls P f args w fun e w' => ∃x E',e= .returned x∧d_ E w E' w'∧DD E' w' [.dead,.sl d r l] [.dead,.sl d r l] []∧
   OB E' w' [.dead,.sl d r l] id [(0,.c (.ref 1))] ((),()) [x]∧ ∀i,i<1→alive [.gone,.sl d r] i=true→E'.H0 i=E.H0 i∧E'.H3 i=E.H3 i:=by
 refine h.mono fun e w' hh=> ?_
 obtain⟨v,F',rfl,hv,ho,nd,hfr,hT,hg⟩:=hq e w' hh
 let E':Env:={ E with H3:=fun n=>if n=1 then v else E.H3 n }
 refine⟨v,E',rfl,⟨fun _ h=>h,fun _ h=>h,fun _ h=> .inl h,fun _ h=> .inl h,hT,hg.os,hg.tape,hg.output,hg.size⟩,⟨[[],F'],⟨rfl,fun k B F hB hF=> ?_⟩,?_⟩,?_,fun i hi ha=> ?_⟩
 ·match k with
  |0=>
   simp at hB hF;subst hB hF;rfl
  |1=>
   simp at hB hF;subst hB hF;exact⟨hd,ho⟩
  |k+2=>simp_all
 ·refine⟨by simp_all,fun c hc=>(hfr c (by simp_all)).1,fun c hc=>(hfr c (by simp_all)).2,hS.st,fun c hc=>ATM (hS.cf c hc) hg.size⟩
 ·refine⟨⟨v,rfl,?_⟩,trivial⟩
  refine⟨hv,?_⟩
  show DF r l []∧(∃q,G_ r l []=some q)∧Iw w' (E'.H3 1) []=some v
  refine⟨trivial,⟨_,rfl⟩,?_⟩;rfl
 grind
end Go.Fw
end
section
namespace Go.Fw
open Go.M Go.Proofs Go.Shelf Go.RowKit Go.Lib
theorem vq{w:World}{b:Nat}{arr:Array Value}{ty:TypeId}{fr:ADE}(h:w.heap[b]? =some (.cells arr ty fr)):w.shape? b=some (ty,arr.size):=by
 simp[World.shape?,h]
theorem AGH{w:World}{b o:Nat}{v:Value}(h:w.cell? ⟨b,o,none⟩=some v):∃arr ty fr,w.heap[b]? =some (.cells arr ty fr)∧o<arr.size:=by
 unfold World.cell? at h;grind
theorem Grown.trans'{w w' w'':World}(h:Grown w w')(k:Grown w' w''):Grown w w'':=⟨k.os.trans h.os,k.tape.trans h.tape,k.output.trans h.output,AQ4 h.size k.size⟩
theorem vP{P:Program}{T:Jp}{ρ:Ren}{nm:String}{fv:Func}(hT:Em P T)(L:dB P ρ nm fv){r:Ty}(UR:T.ND (ρ.t 24) r=true)(hf:r.flat=true)(ZM:mk r=1)(hn0:0<r.n):
  W9 P (ρ.f 22) ⟨ry r,y9 r,fun v=>(xD v.1.2.1 v.1.2.2.1 v.2.1).map fun l=>(((),()),((),l,()))⟩:=by
 refine⟨by simp[QN.ok,kinds,kD,AP.Lm,XP.Lm,BP.Lm],XC L.f22 L.n22 (by kernel_rfl),?_⟩;intro E w v args u AWr hB hS hg;obtain⟨⟨u0,p,vs,u1⟩,rows,u2⟩:=v;obtain⟨⟨⟨⟩,⟨⟩⟩,⟨⟩,l,⟨⟩⟩:=u;simp only[AL9]at hg;obtain⟨l',jP,hg⟩:=hg;simp only[APo,true_and,ATS]at hg;subst hg;unfold xD at jP;split at jP
 case isFalse=>cases jP
 rename_i hc;obtain⟨hp0,hp1,Xx⟩:=hc;obtain⟨p,rfl⟩:=AXZ hp0;simp only[AMZ,ALt]at jP;have hpn:p≤rows.length:=by omega
 obtain⟨⟨a0,h0,x0⟩,⟨a1,h1,x1⟩,⟨a2,h2,x2⟩,_⟩:=hS;have IQ:args= #[a0,a1,a2]:=by
  have hl3:args.toList.length=3:=AWr;apply Array.ext'
  match hq:args.toList,hl3 with
  |[b0,b1,b2],_=>
   rw[hq]at h0 h1 h2;simp at h0 h1 h2;simp[h0,h1,h2]
 subst IQ;have e0:E.H3 0=a0:=by
  have:VR E w [Bx.sl 1 r rows] (.ref 0 []) a0:=x0;simp only[VR]at this;obtain⟨_,_,_,h⟩:=this;rw[DA]at h;exact Option.some.inj h
 have e1:a1= .int .i64 (p:Int):=by
  have:VR E w [Bx.sl 1 r rows] (.v (.int .i64) (p:Int)) a1:=x1;simp only[VR,Rd,AQY,ATS]at this;exact this.2
 have e2:Rd w E.T (.sl r) [a2] vs:=by
  have:VR E w [Bx.sl 1 r rows] (.sl false r vs) a2:=x2;simp only[VR]at this;simpa using this
 subst e1;obtain⟨Fs,⟨hFl,hFb⟩,hSep⟩:=hB;obtain⟨F,rfl⟩:∃F,Fs=[F]:=by
  match Fs,hFl with
  |[F],_=>exact⟨F,rfl⟩
 have ADX:=hFb 0 (.sl 1 r rows) F rfl rfl;obtain⟨_,ho⟩:=ADX;rw[e0]at ho;simp only[ATt,AVv,AM3]at hSep;have ho0:=ho;obtain⟨ad,cap,css,Fs1,R1,rfl,hle,hd,hp1',hcase⟩:=nc ho;have v7:=AIZ hf hd;obtain⟨e,ti,hut,Uv,hs1,hby,hrow⟩:=KX hT UR;obtain⟨i0,z,i1,i2,i3,i4,i5,mN⟩:=WU hT Uv hrow;have he:e=ρ.t 9:=by
  have:=L.t24.symm.trans hut;simp at this;exact this.symm
 subst he;rw[hs1]at i2;have z9:∀w,(Go.sizeOf (ρ.t 9)).run P w= .ok r.n w:=fun w=>by simp[sizeOf,typeInfo,i1,i2]
 have hzl:z.cells.size=r.n:=by rw[←AVV,i5,Gw]
 have e2':=e2;simp only[Rd]at e2;obtain⟨va,vc,Z7,hvle,hvr⟩:=e2;simp only[AQY,ATS]at Z7;subst Z7;have fin:∀{Q:Ending→World→Prop},Calls P (ρ.f 22) #[.slice ad rows.length cap,.int .i64 (p:Int),.slice va vs.length vc] w Q→
   (∀e w',Q e w'→ ∃v F',e= .returned v∧isSlice v=true∧Ow w' E.S 1 (.sl r) [v] l' F'∧F'.Nodup∧(∀c∈F',¬E.T c∧c<w'.heap.size)∧(∀c,E.T c→w'.heap[c]? =w.heap[c]?)∧Grown w w')→_:=fun h hq=>AAI (AQE 1) hSep h hq
 have l6:∀n:Nat,(List.replicate n ([]:ABJ)).flatten=[]:=fun n=>by simp
 by_cases hm0:vs.length=0
 ·
  have Aaf:vs=[]:=APu hm0;subst Aaf;have hl:rows=l':=by rw[←jP,AM3,List.take_append_drop]
  subst hl;refine fin (AFI (k:=r.n) L z9 ad rows.length cap p va vc w hpn hle) fun e w' h=> ?_
  obtain⟨rfl,rfl⟩:=h;exact⟨_,F,rfl,rfl,ho0,hSep.nodup,fun c hc=>⟨hSep.free c hc,hSep.lt c hc⟩,fun _ _=>rfl,⟨rfl,rfl,rfl,AQE _⟩⟩
 have hm:0<vs.length:=by omega
 rcases hvr with hvr|⟨vb,vo,rfl,hvT,hvr⟩
 ·exact absurd hvr hm0
 obtain⟨sI,c1,c2,c3,c4⟩:=o8 hvr;have YQ:Flat w r sI vs:=⟨c1,c2,fun i cs y a b=>eI hf (c4 i cs y a b)⟩;have zq:sI.flatten.length=vs.length*r.n:=by rw[Hl c2,c1]
 have zg:css.flatten.length=rows.length*r.n:=by rw[Hl hd.2.2.1,hd.1]
 have AW9:0<sI.flatten.length:=by rw[zq];exact Nat.mul_pos hm hn0
 obtain⟨arrv,tyv,frv,hbv,hov⟩:=AGH (c3 0 _ (ALR AW9));have AZD:vb<w.heap.size:=by
  by_cases hh:vb<w.heap.size
  ·exact hh
  ·rw[Array.getElem?_eq_none (by omega)]at hbv;cases hbv
 have l5:ju P w r.n vs.length (.slice (some ⟨vb,vo,none⟩) vs.length vc) sI.flatten:=Qi c1 c2 (.inr ⟨vb,vo,rfl,c3⟩);have AW7:∀W:World,W.heap[vb]? =w.heap[vb]?→(Builtin.firstCells r.n vs.length (.slice (some ⟨vb,vo,none⟩) vs.length vc)).run P W= .ok sI.flatten.toArray W:=fun W hW=>by
  simp only[Builtin.firstCells];rw[←zq];exact Lf (c3.of_block hW)
 have ANA:=v7.one hf;have AFd:=YQ.one hf;by_cases S_:rows.length+vs.length≤cap
 ·rcases hcase with⟨h0,_⟩|⟨b,o,arr,ty,fr,rfl,hb,PN,hu,rfl,q7⟩
  ·omega
  have hbT: ¬E.T b:=hSep.free b (by simp);have AEV:b<w.heap.size:=hSep.lt b (by simp);have bd:vb≠b:=fun e=>hbT (e▸hvT)
  have AcL:(rows.length+vs.length)*r.n≤cap*r.n:=AOi _ S_;have sj:(rows.length+vs.length)*r.n=rows.length*r.n+vs.length*r.n:=ATm ..;by_cases hpe:p=rows.length
  ·subst hpe
   have hl:rows++vs=l':=by rw[←jP,List.take_length,ATs,AM3]
   subst hl;have i7:=AF7 (ρ:=ρ) L (i0:=i0) i1 b o rows.length cap ⟨vb,vo,none⟩ vs.length vc sI.flatten w hm S_ (by rw[i2];exact Uc (k:=mk r) hb (by omega) hu) (by rw[i2];exact l5) AFd;refine fin i7 fun e w' h=> ?_
   obtain⟨rfl,rfl⟩:=h;obtain⟨KG,q1,q2,q3⟩:=mL (B:=[]) (V:=sI.flatten) hb (by simp only[AQO];omega) q7;rw[zg,←i2]at q1 q3;simp only[World.setCells,AM3]at q1 q3;have xw:=(v7.append YQ).to (w':=w.setCells b (o+rows.length*i0.size) sI.flatten) hf;refine⟨_,b::(List.replicate (rows++vs).length ([]:ABJ)).flatten,rfl,rfl,?_,?_,?_,fun c hc=>DP _ _ _ _ _ (fun e=>hbT (e▸hc)),CC _ _ _ _⟩
   ·have:=jc (cap:=cap) (xw.at (S:=E.S) (d:=0) hf) q1 (by rw[ATn];exact q3) (by rw[AOs];exact S_) (by rw[q2];exact PN) (by rw[q2];exact hu)
    rw[l6]at this⊢;rw[AOs]at this;exact this
   ·simp
   ·intro c hc
    rw[l6]at hc;simp at hc;subst hc;exact⟨hbT,by rw[Dc];exact AEV⟩
  ·have Lu:p<rows.length:=by omega
   have hpm:p*r.n≤rows.length*r.n:=AOi _ hpn;have APp:(p+vs.length)*r.n=p*r.n+vs.length*r.n:=ATm ..;have i7:=AC6 (ρ:=ρ) L (i0:=i0) i1 (by rw[i2];exact hn0) b o rows.length cap p ⟨vb,vo,none⟩ vs.length vc css.flatten sI.flatten w Lu hm S_ Xx bd (by rw[i2];exact zg) (by rw[i2];exact zq) q7
    (by rw[i2];exact Uc (k:=mk r) hb (by omega) hu) (by rw[i2];exact AW7) ANA AFd tyv ty arrv.size arr.size (vq hbv) (vq hb) (by omega) (by
     have:=hu arr.size (by omega);obtain⟨lo,hi⟩:=fr;simp only[World.frozen?,hb];simp at this⊢;omega)
   refine fin i7 fun e w' h=> ?_
   obtain⟨rfl,W,tP,hWg,rfl⟩:=h;have hA:(css.flatten.take (p*r.n)).length=p*r.n:=by rw[AV0];omega
   have hB:(css.flatten.drop (p*r.n)).length=rows.length*r.n-p*r.n:=by rw[AVx,zg]
   have hbW:W.heap[b]? =some (.cells arr ty fr):=by rw[tP];exact hb
   have hcA:Bc W b o (css.flatten.take (p*r.n)):=Bc.heap (fun j v hj=>by
    rw[AWG]at hj;split at hj
    ·exact q7 j v hj
    ·cases hj) tP
   obtain⟨KG,q1,q2,q3⟩:=mL (B:=css.flatten.drop (p*r.n)) (V:=sI.flatten) hbW (by omega) hcA;rw[hA,zq,←APp,←i2]at q1 q3
   generalize rC:(W.setCells b (o+(p+vs.length)*i0.size) (css.flatten.drop (p*i0.size))).setCells b (o+p*i0.size) sI.flatten=w' at q1 q3
   have xw:=(((v7.take p).append YQ).append (v7.drop p)).to (w':=w') hf;rw[jP]at xw;have hll:l'.length=rows.length+vs.length:=by rw[←jP];simp;omega
   refine⟨_,b::(List.replicate l'.length ([]:ABJ)).flatten,rfl,rfl,?_,?_,?_,fun c hc=> ?_,?_⟩
   ·have:=jc (cap:=cap) (xw.at (S:=E.S) (d:=0) hf) q1 (by
     rw[ATn,ATn,←v7.tL p hpn,←v7.s_ p hpn,←i2];exact q3) (by rw[hll];exact S_) (by rw[q2];exact PN) (by rw[q2];exact hu)
    rw[l6]at this⊢;rw[hll]at this;exact this
   ·simp
   ·intro c hc
    rw[l6]at hc;simp at hc;subst hc;refine⟨hbT,?_⟩;rw[←rC,Dc,Dc,tP];exact AEV
   ·have hcb:c≠b:=fun e=>hbT (e▸hc)
    rw[←rC,DP _ _ _ _ _ hcb,DP _ _ _ _ _ hcb,tP]
   ·rw[←rC]
    exact Grown.trans' hWg (Grown.trans' (CC _ _ _ _) (CC _ _ _ _))
 ·have hgc:=grownCap_ge w (rows.length+vs.length) cap (ρ.t 9)
  by_cases hpe:p=rows.length
  ·subst hpe
   have hl:rows++vs=l':=by rw[←jP,List.take_length,ATs,AM3]
   subst hl;have hold:rows.length=0∨ ∃b o,ad=some ⟨b,o,none⟩∧Bc w b o css.flatten:=by
    rcases hcase with⟨h0,_⟩|⟨b,of,arr,ty0,fr,rfl,hb,PN,hunf,rfl,hc⟩
    ·exact .inl (by omega)
    ·exact .inr ⟨b,of,rfl,hc⟩
   have i7:=AEZ (ρ:=ρ) L (i0:=i0) (z:=z) i1 i4 (by omega) ad rows.length cap ⟨vb,vo,none⟩ vs.length vc css.flatten sI.flatten w hm hle (by omega) Xx (by rw[i2];exact fT hd.1 hd.2.2.1 hold) (by rw[i2];exact l5);refine fin i7 fun e w' h=> ?_
   obtain⟨rfl,rfl⟩:=h
   generalize grownCap w (rows.length+vs.length) cap (ρ.t 9)=gc at hgc⊢
   generalize cU:css.flatten.toArray++sI.flatten.toArray++Builtin.zeroCells z.cells (gc-(rows.length+vs.length))=arr
   have hal:arr.toList=(css++sI).flatten++(Builtin.zeroCells z.cells (gc-(rows.length+vs.length))).toList:=by rw[←cU];simp
   have Abt:arr.size=gc*r.n:=by
    rw[←cU];simp only[AXb,AXc,ZL,hzl,zq,zg,←ATm];congr 1;omega
   have new:(w.drew.alloc (.cells arr (ρ.t 9))).heap[w.heap.size]? =some (.cells arr (ρ.t 9)):=by
    show(w.heap.push (.cells arr (ρ.t 9)))[w.heap.size]? =_
    simp
   have xw:=(v7.append YQ).to (w':=w.drew.alloc (.cells arr (ρ.t 9))) hf;have hra:=xw.at (S:=E.S) (d:=0) hf;refine⟨_,w.heap.size::(List.replicate (rows++vs).length ([]:ABJ)).flatten,rfl,rfl,?_,?_,?_,fun c hc=>Iz (hSep.cf c hc),⟨rfl,rfl,rfl,by show _≤(w.heap.push _).size;simp⟩⟩
   ·have:=dQ (cap:=gc) new hal hra.1 (by rw[AOs];exact hgc) (by omega) (WQ _) hra.2.1 hra.2.2.2
    rw[l6]at this⊢;rw[AOs]at this;exact this
   ·simp
   ·intro c hc
    rw[l6]at hc;simp at hc;subst hc;exact⟨fun x_=>Nat.lt_irrefl _ (hSep.cf _ x_),by show _<(w.heap.push _).size;simp⟩
  ·have Lu:p<rows.length:=by omega
   have hpm:p*r.n≤rows.length*r.n:=AOi _ hpn;have APp:(p+vs.length)*r.n=p*r.n+vs.length*r.n:=ATm ..;have sj:(rows.length+vs.length)*r.n=rows.length*r.n+vs.length*r.n:=ATm ..;rcases hcase with⟨h0,_⟩|⟨b,o,arr,ty,fr,rfl,hb,PN,hu,rfl,q7⟩
   ·omega
   have AEV:b<w.heap.size:=hSep.lt b (by simp);have i7:=ALp (ρ:=ρ) L (i0:=i0) (z:=z) i1 i4 (by rw[i2];exact hzl) (by rw[i2];exact hn0) (by omega) b o rows.length cap p ⟨vb,vo,none⟩ vs.length vc css.flatten sI.flatten w Lu hm hle (by omega) Xx (by rw[i2];exact zg) (by rw[i2];exact zq) AEV q7 AZD (by rw[i2];exact AW7) ANA AFd;refine fin i7 fun e w' h=> ?_
   obtain⟨rfl,W,tP,hWo,hWt,hWu,rfl⟩:=h
   generalize grownCap w (rows.length+vs.length) cap (ρ.t 9)=gc at hgc tP⊢
   have hA:(css.flatten.take (p*r.n)).length=p*r.n:=by rw[AV0];omega
   have hB:(css.flatten.drop (p*r.n)).length=rows.length*r.n-p*r.n:=by rw[AVx,zg]
   rw[i2]at tP
   generalize ACa:(css.flatten.take (p*r.n)).toArray++Builtin.zeroCells z.cells (rows.length+vs.length-p)++Builtin.zeroCells z.cells (gc-(rows.length+vs.length))=ROW at tP
   have hRs:ROW.size=gc*r.n:=by
    rw[←ACa];simp only[AXb,AXc,ZL,hzl,hA,←ATm];congr 1;omega
   have hgm:(rows.length+vs.length)*r.n≤gc*r.n:=AOi _ hgc;have hbW:W.heap[w.heap.size]? =some (.cells ROW (ρ.t 9)):=by rw[tP];simp
   have hcA:Bc W w.heap.size 0 (css.flatten.take (p*r.n)):=fun j v hj=>by
    have qq:=(AMG.1 hj).1;rw[Kl hbW,ATf,←Array.getElem?_toList,←ACa];simp only[Array.toList_append,AM_];rw[AND qq];exact hj
   obtain⟨KG,q1,q2,q3⟩:=ic (B:=css.flatten.drop (p*r.n)) (V:=sI.flatten) hbW (by omega) hcA;rw[hA,zq,←APp,←i2,ATf,ATf]at q1 q3
   generalize rC:(W.setCells w.heap.size (p*i0.size) sI.flatten).setCells w.heap.size ((p+vs.length)*i0.size) (css.flatten.drop (p*i0.size))=w' at q1 q3
   have xw:=(((v7.take p).append YQ).append (v7.drop p)).to (w':=w') hf;rw[jP]at xw;have hll:l'.length=rows.length+vs.length:=by rw[←jP];simp;omega
   refine⟨_,w.heap.size::(List.replicate l'.length ([]:ABJ)).flatten,rfl,rfl,?_,?_,?_,fun c hc=> ?_,?_⟩
   ·have:=jc (cap:=gc) (xw.at (S:=E.S) (d:=0) hf) q1 (by
     rw[ATn,ATn,←v7.tL p hpn,←v7.s_ p hpn,←i2];exact q3) (by rw[hll];exact hgc) (by rw[q2];omega) (WQ _)
    rw[l6]at this⊢;rw[hll]at this;exact this
   ·simp
   ·intro c hc
    rw[l6]at hc;simp at hc;subst hc;refine⟨fun x_=>Nat.lt_irrefl _ (hSep.cf _ x_),?_⟩;rw[←rC,Dc,Dc,tP];simp
   ·have cX:=hSep.cf c hc
    rw[←rC,DP _ _ _ _ _ (by omega),DP _ _ _ _ _ (by omega),tP];exact Iz cX
   ·rw[←rC]
    refine Grown.trans' (w':=W) ⟨hWo,hWt,hWu,by rw[tP];simp⟩ (Grown.trans' (CC _ _ _ _) (CC _ _ _ _))
end Go.Fw
end
section
namespace Go.Fw
open Go.M Go.Proofs Go.Shelf Go.RowKit Go.Lib
structure pD (P:Program) (ρ:Ren) (nm:String):Prop where
 mixed:P.follows .mixedOrders=true
 f24:P.funcs[ρ.f 24]? =some { Body2.n24 ρ with name:=nm }
 n24:(nm== "runtime.NumGoroutine")=false
 t0:P.underlying (ρ.t 0)=some (TypeDesc.tuple #[])
 a0:∀w,(isAgg (ρ.t 0)).run P w= .ok false w
 z0:∀w,(Go.sizeOf (ρ.t 0)).run P w= .ok 1 w
 v0:∀w,(zeroValue (ρ.t 0)).run P w= .ok (Value.tuple #[]) w
 t3:P.underlying (ρ.t 3)=some (TypeDesc.int IntKind.i64)
 a3:∀w,(isAgg (ρ.t 3)).run P w= .ok false w
 z3:∀w,(Go.sizeOf (ρ.t 3)).run P w= .ok 1 w
 v3:∀w,(zeroValue (ρ.t 3)).run P w= .ok (Value.int IntKind.i64 0) w
 t4:P.underlying (ρ.t 4)=some (TypeDesc.bool)
 a4:∀w,(isAgg (ρ.t 4)).run P w= .ok false w
 z4:∀w,(Go.sizeOf (ρ.t 4)).run P w= .ok 1 w
 v4:∀w,(zeroValue (ρ.t 4)).run P w= .ok (Value.bool false) w
 t24:P.underlying (ρ.t 24)=some (TypeDesc.slice (ρ.t 9))
 a24:∀w,(isAgg (ρ.t 24)).run P w= .ok false w
 z24:∀w,(Go.sizeOf (ρ.t 24)).run P w= .ok 1 w
 v24:∀w,(zeroValue (ρ.t 24)).run P w= .ok (Value.slice none 0 0) w
section
variable{P:Program} {ρ:Ren} {nm:String}
set_option maxHeartbeats 4000000 in
set_option maxRecDepth 1000000 in
theorem AEB(L:pD P ρ nm){k:Nat}(z9:∀w,(Go.sizeOf (ρ.t 9)).run P w= .ok k w)(ad:Option Addr)(n c i:Nat)(w:World)(hi:i≤n)(hnc:n≤c):
  Calls P (ρ.f 24) #[.slice ad n c,.int .i64 i,.int .i64 i] w fun e w' =>e= .returned (.slice ad n c)∧w' =w:=by
 have mixed:=L.mixed;have t0:=L.t0;have a0:=L.a0;have z0:=L.z0;have v0:=L.v0;have t3:=L.t3;have a3:=L.a3;have z3:=L.z3;have v3:=L.v3;have t4:=L.t4;have a4:=L.a4;have z4:=L.z4;have v4:=L.v4;have t24:=L.t24;have a24:=L.a24;have z24:=L.z24;have v24:=L.v24;have u0:=run_underlying L.t0;have u3:=run_underlying L.t3;have u4:=run_underlying L.t4;have Xp:=run_underlying L.t24
 go_enter L.f24,Body2.n24_ntmps ρ
 cases ad with
 |none=>
  go_wp2
  all_goals (go_ret;exact⟨rfl,rfl⟩)
 |some a=>
  obtain⟨ab,ao,asp⟩:=a
  go_wp2
  all_goals (go_ret;exact⟨rfl,rfl⟩)
theorem vl{w:World}{t elem ty:TypeId}{i0:TypeInfo}{z:Value}{b o n cap:Nat}{Z:List Value}(hu:P.underlying t=some (.slice elem))(hi:P.info? elem=some i0)(hz:i0.zero=some z)(hn:0<n)(hZ:(Builtin.zeroCells z.cells n).toList=Z)
  (oZ:w.there b o Z.length) (h1:∀v∈Z,v.oneCell' =true):(Builtin.clear_ #[t] ty #[.slice (some ⟨b,o,none⟩) n cap]).run P w= .ok (.tuple #[]) (w.setCells b o Z):=by
 have fO:=run_storeCells_cells (P:=P) b o Z 0 w (by simpa using fun j hj=>(oZ j hj).1) (by simpa using fun j hj=>(oZ j hj).2) h1;rw[ATu]at fO;obtain⟨n,rfl⟩:∃m,n=m+1:=⟨n-1,by omega⟩;simp[Builtin.clear_,run_underlying hu,zeroValue,typeInfo,hi,hz,hZ,fO]
set_option maxHeartbeats 4000000 in
set_option maxRecDepth 1000000 in
theorem AEN(L:pD P ρ nm){i0:TypeInfo}{z:Value}(vd:P.info? (ρ.t 9)=some i0)(hz:i0.zero=some z)(b off n c i j:Nat)(cs Z:List Value)(w:World)(zU:i<j)(hj:j≤n)(hnc:n≤c)
  (cX:cs.length=n*i0.size) (xW:Bc w b off cs) (oZ:w.there b off (n*i0.size)) (h1c:∀v∈cs,v.oneCell' =true) (hZ:(Builtin.zeroCells z.cells (j-i)).toList=Z) (hZl:Z.length=(j-i)*i0.size) (h1z:∀v∈Z,v.oneCell' =true):
  Calls P (ρ.f 24) #[.slice (some ⟨b,off,none⟩) n c,.int .i64 i,.int .i64 j] w fun e w' =>
   e= .returned (.slice (some ⟨b,off,none⟩) (i+(n-j)) c)∧ ∃W:World,W.heap=w.heap∧Grown w W∧w' =(W.setCells b (off+i*i0.size) (cs.drop (j*i0.size))).setCells b (off+(i+(n-j))*i0.size) Z:=by
 have mixed:=L.mixed;have t0:=L.t0;have a0:=L.a0;have z0:=L.z0;have v0:=L.v0;have t3:=L.t3;have a3:=L.a3;have z3:=L.z3;have v3:=L.v3;have t4:=L.t4;have a4:=L.a4;have z4:=L.z4;have v4:=L.v4;have t24:=L.t24;have a24:=L.a24;have z24:=L.z24;have v24:=L.v24;have u0:=run_underlying L.t0;have u3:=run_underlying L.t3;have u4:=run_underlying L.t4;have Xp:=run_underlying L.t24;have z9:∀w,(Go.sizeOf (ρ.t 9)).run P w= .ok i0.size w:=fun w=>by simp[sizeOf,typeInfo,vd]
 obtain⟨k,hk⟩:∃k,i0.size=k:=⟨_,rfl⟩;rw[hk]at cX oZ hZl z9⊢;have e1:(n-j)*k=n*k-j*k:=AVk ..;have e2:(j-i)*k=j*k-i*k:=AVk ..;have e3:j*k≤n*k:=AOi _ hj;have e4:i*k≤j*k:=AOi _ (by omega);have e5:(i+(n-j))*k=i*k+(n-j)*k:=ATm ..;obtain⟨news,l5⟩:∃news,news=cs.drop (j*k):=⟨_,rfl⟩;have hlen:news.length=(n-j)*k:=by rw[l5,AVx,cX];omega
 rw[←l5];obtain⟨A,hA,AQq⟩:∃A:Addr,(if c=j then(some ⟨b,off,none⟩:Option Addr)else some ⟨b,off+j*k,none⟩)=some A∧Hid (∀t u,news[t]? =some u→w.drew.cell? (A.add t)=some u):=by
  by_cases h:c=j
  ·refine⟨⟨b,off,none⟩,by simp[h],fun t u hu=> ?_⟩
   have h0:news.length=0:=by rw[hlen,show n-j=0 by omega,Nat.zero_mul]
   rw[AXY.1 h0]at hu;simp at hu
  ·refine⟨⟨b,off+j*k,none⟩,by simp[h],fun t u hu=> ?_⟩
   rw[l5,AWB]at hu;rw[Addr.add_eq,ATq];exact xW _ u hu
 have s1:Hid (news.length=(n-j)*k):=hlen;have s2:Hid (∀u∈news,u.oneCell' =true):=fun u hu=>h1c u (by rw[l5]at hu;exact AVC hu)
 have s3:Hid (∀t,t<news.length→(w.drew.cell? ⟨b,off+i*k+t,none⟩).isSome=true∧w.drew.frozen? ⟨b,off+i*k+t,none⟩=false):=by
  intro t ht;rw[hlen]at ht;rw[ATq];exact oZ _ (by omega)
 obtain⟨W1,hW1⟩:∃W1,W1=w.drew.setCells b (off+i*k) news:=⟨_,rfl⟩;have Aee:∀ty,(Builtin.clear_ #[ρ.t 24] ty #[.slice (some ⟨b,off+(i+(n-j))*k,none⟩) (n-(i+(n-j))) (c-(i+(n-j)))]).run P W1= .ok (.tuple #[]) (W1.setCells b (off+(i+(n-j))*k) Z):=fun ty=>by
  rw[show n-(i+(n-j))=j-i by omega];refine vl L.t24 vd hz (by omega) hZ (fun t ht=> ?_) h1z;rw[hZl]at ht;have h0:=oZ ((i+(n-j))*k+t) (by omega);rw[←ATq]at h0;rw[hW1];refine⟨isSome_setCells b _ _ _ (fun q hq=> ?_) _ h0.1,by rw[World.frozen?_setCells];exact h0.2⟩;rw[hlen]at hq;have:=(oZ (i*k+q) (by omega)).1;rw[←ATq]at this;exact this
 have hW:Hid (W1=w.drew.setCells b (off+i*k) news):=hW1;have hic:i≤c:=by omega
 have hjc:j≤c:=by omega
 have hjn:(i:Int)≤(j:Int):=by omega
 have fin:∃W:World,W.heap=w.heap∧Grown w W∧W1.setCells b (off+(i+(n-j))*k) Z=(W.setCells b (off+i*k) news).setCells b (off+(i+(n-j))*k) Z:=⟨w.drew,rfl,⟨rfl,rfl,rfl,AQE _⟩,by rw[hW1]⟩;clear hW1 l5 hlen e1 e2 e3 e4 e5 oZ xW cX hZl
 go_enter L.f24,Body2.n24_ntmps ρ
 go_wp2_with fail
 go_region_law_o (refine step_append_room rfl (.tmp 22) (.tmp 25) (ρ.t 24) rfl (ρ.t 9) i0 k t24 vd hk b off i c (by simp[Act.eval,Act.put]) A (n-j) (c-j) news (by simp[Act.eval,Act.put]) s1.out AQq.out s2.out (by omega) s3.out ?_;rw[←hW.out])
 go_wp2
 go_ret
 exact⟨rfl,fin⟩
end
end Go.Fw
end
section
namespace Go.Fw
open Go.M Go.Proofs Go.Shelf Go.RowKit Go.Lib
theorem FL.take{w:World}{S:Nat→Prop}{d:Nat}{r:Ty}{css:List (List Value)}{rows:List r.D}{Fs:List ABJ}(h:FL w S d r css rows Fs)(n:Nat):FL w S d r (css.take n) (rows.take n) (Fs.take n):=by
 refine⟨by simp[h.1],by simp[h.2.1],fun c hc=>h.2.2.1 c (AXC hc),fun i cs y G a b c=> ?_⟩;rw[AWG]at a b c;split at a
 ·rename_i hi
  rw[ALP hi]at b c;exact h.2.2.2 i cs y G a b c
 simp_all
theorem FL.drop{w:World}{S:Nat→Prop}{d:Nat}{r:Ty}{css:List (List Value)}{rows:List r.D}{Fs:List ABJ}(h:FL w S d r css rows Fs)(n:Nat):FL w S d r (css.drop n) (rows.drop n) (Fs.drop n):=by
 refine⟨by simp[h.1],by simp[h.2.1],fun c hc=>h.2.2.1 c (AVC hc),fun i cs y G a b c=> ?_⟩;rw[AWB]at a b c;exact h.2.2.2 _ cs y G a b c
theorem AB4{r:Ty}{css:List (List Value)}(hl:∀c∈css,c.length=r.n)(n:Nat)(hn:n≤css.length):css.flatten.take (n*r.n)=(css.take n).flatten:=by
 have h1:((css.take n).flatten).length=n*r.n:=by
  grind[Hl,List.mem_of_mem_take,List.length_take,Nat.min_eq_left]
 grind[List.take_append_drop,List.flatten_append,List.take_of_length_le]
theorem ACk{r:Ty}{css:List (List Value)}(hl:∀c∈css,c.length=r.n)(n:Nat)(hn:n≤css.length):css.flatten.drop (n*r.n)=(css.drop n).flatten:=by
 have h1:((css.take n).flatten).length=n*r.n:=by
  grind[Hl,List.mem_of_mem_take,List.length_take,Nat.min_eq_left]
 grind[List.take_append_drop,List.flatten_append,List.drop_eq_nil_of_le]
theorem dX:∀{A B:List ABJ},A.Sublist B→A.flatten.Sublist B.flatten
 |_,_,.slnil=> .slnil
 |_,_,.cons b h=>(dX h).trans (List.sublist_append_right _ _)
 |_,_,.cons_cons b h=>(List.Sublist.refl b).append (dX h)
theorem U3{Fs:List ABJ}{p q:Nat}(hpq:p≤q):((Fs.take p++Fs.drop q).flatten).Sublist Fs.flatten:=by
 grind[List.drop_drop,List.drop_sublist,List.take_append_drop,dX]
@[reducible] def tH (d:Nat) (r:Ty):BZ:=⟨[(0,.c (.ref 0)),(1,.c (.v (.int .i64))),(2,.c (.v (.int .i64)))],[.sl d r]⟩
@[reducible] def yo (d:Nat) (r:Ty):BZ:=⟨[(0,.c (.ref 1))],[.gone,.sl d r]⟩
theorem uh{P:Program}{T:Jp}{ρ:Ren}{nm:String}(hT:Em P T)(L:pD P ρ nm){r:Ty}(UR:T.ND (ρ.t 24) r=true)(hn0:0<r.n)(m:Nat):
  W9 P (ρ.f 24) ⟨tH (m+1) r,yo (m+1) r,fun v=>(AEo v.1.2.1 v.1.2.2.1 v.2.1).map fun l=>(((),()),((),l,()))⟩:=by
 refine⟨by rfl,XC L.f24 L.n24 (by kernel_rfl),?_⟩;intro E w v args u AWr hB hS hg;obtain⟨⟨u0,p,q,u1⟩,rows,u2⟩:=v;obtain⟨⟨⟨⟩,⟨⟩⟩,⟨⟩,l,⟨⟩⟩:=u;simp only[AL9]at hg;obtain⟨l',jP,hg⟩:=hg;simp only[APo,true_and,ATS]at hg;subst hg;unfold AEo at jP;split at jP
 case isFalse=>cases jP
 rename_i hc;obtain⟨hp0,hpq,hqn⟩:=hc;have hq0:(0:Int)≤q:=Int.le_trans hp0 hpq;obtain⟨p,rfl⟩:=AXZ hp0;obtain⟨q,rfl⟩:=AXZ hq0;simp only[AMZ,ALt]at jP;have ASK:p≤q:=by omega
 have AR9:q≤rows.length:=by omega
 obtain⟨⟨a0,h0,x0⟩,⟨a1,h1,x1⟩,⟨a2,h2,x2⟩,_⟩:=hS;have IQ:args= #[a0,a1,a2]:=by
  grind
 subst IQ;have e0:E.H3 0=a0:=by
  have:VR E w [Bx.sl (m+1) r rows] (.ref 0 []) a0:=x0;grind[VR,DA,Option.some.inj]
 have e1:a1= .int .i64 (p:Int):=by
  have:VR E w [Bx.sl (m+1) r rows] (.v (.int .i64) (p:Int)) a1:=x1;simp only[VR,Rd,AQY,ATS]at this;simp_all
 have e2:a2= .int .i64 (q:Int):=by
  have:VR E w [Bx.sl (m+1) r rows] (.v (.int .i64) (q:Int)) a2:=x2;simp only[VR,Rd,AQY,ATS]at this;simp_all
 subst e1 e2;obtain⟨Fs,⟨hFl,hFb⟩,hSep⟩:=hB;obtain⟨F,rfl⟩:∃F,Fs=[F]:=by
  match Fs,hFl with
  |[F],_=>simp_all
 have ADX:=hFb 0 (.sl (m+1) r rows) F rfl rfl;obtain⟨_,ho⟩:=ADX;rw[e0]at ho;simp only[ATt,AVv,AM3]at hSep;have ho0:=ho;obtain⟨ad,cap,css,Fs1,R1,rfl,hle,hd,hp1',hcase⟩:=nc ho;obtain⟨e,ti,hut,Uv,hs1,hby,hrow⟩:=KX hT UR;obtain⟨i0,z,i1,i2,i3,i4,i5,mN⟩:=WU hT Uv hrow;have he:e=ρ.t 9:=by
  have:=L.t24.symm.trans hut;simp_all
 subst he;rw[hs1]at i2;have z9:∀w,(Go.sizeOf (ρ.t 9)).run P w= .ok r.n w:=fun w=>by simp[sizeOf,typeInfo,i1,i2]
 have hzl:z.cells.size=r.n:=by rw[←AVV,i5,Gw]
 have fin:∀{Q:Ending→World→Prop},Calls P (ρ.f 24) #[.slice ad rows.length cap,.int .i64 (p:Int),.int .i64 (q:Int)] w Q→
   (∀e w',Q e w'→ ∃v F',e= .returned v∧isSlice v=true∧Ow w' E.S (m+1) (.sl r) [v] l' F'∧F'.Nodup∧(∀c∈F',¬E.T c∧c<w'.heap.size)∧(∀c,E.T c→w'.heap[c]? =w.heap[c]?)∧Grown w w')→_:=fun h hq=>AAI (by omega) hSep h hq
 by_cases hpe:p=q
 ·subst hpe
  have hl:rows=l':=by simp_all
  subst hl;refine fin (AEB (k:=r.n) L z9 ad rows.length cap p w AR9 hle) fun e w' h=> ?_
  obtain⟨rfl,rfl⟩:=h;exact⟨_,F,rfl,rfl,ho0,hSep.nodup,fun c hc=>⟨hSep.free c hc,hSep.lt c hc⟩,fun _ _=>rfl,⟨rfl,rfl,rfl,AQE _⟩⟩
 have Lu:p<q:=by omega
 rcases hcase with⟨h0,_⟩|⟨b,o,arr,ty,fr,rfl,hb,PN,hu,rfl,q7⟩
 ·omega
 have hbT: ¬E.T b:=hSep.free b (by simp);have AEV:b<w.heap.size:=hSep.lt b (by simp);have qt:=AWf.1 hSep.nodup;have zg:css.flatten.length=rows.length*r.n:=by rw[Hl hd.2.2.1,hd.1]
 have g1:(rows.length-q)*r.n=rows.length*r.n-q*r.n:=AVk ..;have g2:(q-p)*r.n=q*r.n-p*r.n:=AVk ..;have g3:q*r.n≤rows.length*r.n:=AOi _ AR9;have g4:p*r.n≤q*r.n:=AOi _ ASK;have g5:(p+(rows.length-q))*r.n=p*r.n+(rows.length-q)*r.n:=ATm ..;have g6:rows.length*r.n≤cap*r.n:=AOi _ hle;have hzr:Et r≠[]:=fun h=>by simp_all
 have hZ:(Builtin.zeroCells z.cells (q-p)).toList=(List.replicate (q-p) (Et r)).flatten:=by
  grind[Builtin.zeroCells,V5,Et,Gw]
 have hZl:((List.replicate (q-p) (Et r)).flatten).length=(q-p)*r.n:=by rw[HD,Gw]
 have hZ1:∀v∈(List.replicate (q-p) (Et r)).flatten,v.oneCell' =true:=fun v hv=>by
  obtain⟨c,hc1,hc2⟩:=ASW.1 hv;rw[ATo hc1]at hc2;exact ka (w:=w) (S:=E.S) (d:=0) (eD mN) v hc2
 have i7:=AEN (ρ:=ρ) L (i0:=i0) (z:=z) i1 i4 b o rows.length cap p q css.flatten _ w Lu AR9 hle (by simp_all) q7 (by grind[Uc,mk]) hd.one hZ (by simp_all) hZ1;refine fin i7 fun e w' h=> ?_
 obtain⟨rfl,W,tP,hWg,rfl⟩:=h;rw[i2];have hA:(css.flatten.take (p*r.n)).length=p*r.n:=by grind
 have hB:(css.flatten.drop (q*r.n)).length=(rows.length-q)*r.n:=by simp_all
 have hbW:W.heap[b]? =some (.cells arr ty fr):=by simp_all
 have hcA:Bc W b o (css.flatten.take (p*r.n)):=Bc.heap (fun j v hj=>by
  rw[AWG]at hj;split at hj
  ·exact q7 j v hj
  simp_all) tP
 obtain⟨KG,q1,q2,q3⟩:=ic (B:=(List.replicate (q-p) (Et r)).flatten) (V:=css.flatten.drop (q*r.n)) hbW (by omega) hcA;rw[hA,hB,←g5]at q1 q3
 generalize rC:(W.setCells b (o+p*r.n) (css.flatten.drop (q*r.n))).setCells b (o+(p+(rows.length-q))*r.n) ((List.replicate (q-p) (Et r)).flatten)=w' at q1 q3
 have dZ:∀c,c≠b→w'.heap[c]? =w.heap[c]?:=fun c hc=>by grind[DP]
 have hcT:∀c,E.T c→c≠b:=fun c hc e=>hbT (e▸hc)
 have hra:=((hd.take p).append (hd.drop q)).mono (w':=w') (S':=E.S) (fun _ h=>h) (fun c hc=>dZ c (hcT c (hSep.st c hc))) (fun c hc=>dZ c (fun e=>qt.1 (e▸(U3 ASK).subset hc)));rw[jP]at hra;have hll:l'.length=p+(rows.length-q):=by grind
 refine⟨_,b::(Fs1.take p++Fs1.drop q).flatten,rfl,rfl,?_,?_,fun c hc=> ?_,fun c hc=>dZ c (hcT c hc),?_⟩
 ·have cX:css.length=rows.length:=hd.1
  have:=jc (cap:=cap) hra q1 (by
   rw[ATn,←AB4 hd.2.2.1 p (by omega),←ACk hd.2.2.1 q (by omega)];intro j v hj;exact q3 j v (by grind)) (by omega) (by omega) (by simp_all)
  simp_all
 ·grind[List.nodup_cons,U3]
 ·have AZv:w'.heap.size=w.heap.size:=by grind[Dc]
  rcases AOJ.1 hc with rfl|hc
  ·simp_all
  ·have hm:c∈b::Fs1.flatten:=AXi _ ((U3 ASK).subset hc)
   exact⟨hSep.free c hm,by rw[AZv];exact hSep.lt c hm⟩
 grind[Grown.trans',CC]
end Go.Fw
end
section
namespace Go.Fw
open Go.M Go.Proofs Go.Shelf Go.RowKit Go.Lib
section
variable{P:Program} {ρ:Ren} {nm:String} {fv:Func}
theorem Qv{t:TypeId}{n:Nat}(h:(P.info? t).map (·.size)=some n):∀w,(Go.sizeOf t).run P w= .ok n w:=fun w=>by
 obtain⟨i,hi,rfl⟩:=AL9.1 h;simp[sizeOf,typeInfo,hi]
theorem Yn{t:TypeId}{z:Value}(h:(P.info? t).bind (·.zero)=some z):∀w,(zeroValue t).run P w= .ok z w:=fun w=>by
 obtain⟨i,hi,hz⟩:=AMR.1 h;simp[zeroValue,typeInfo,hi,hz]
structure lp (P:Program) (ρ:Ren):Prop where
 t0:P.underlying (ρ.t 0)=some (TypeDesc.tuple #[])
 t3:P.underlying (ρ.t 3)=some (TypeDesc.int IntKind.i64)
 t4:P.underlying (ρ.t 4)=some (TypeDesc.bool)
 t24:P.underlying (ρ.t 24)=some (TypeDesc.slice (ρ.t 9))
 s0:(P.info? (ρ.t 0)).map (·.size)=some 1
 s3:(P.info? (ρ.t 3)).map (·.size)=some 1
 s4:(P.info? (ρ.t 4)).map (·.size)=some 1
 s24:(P.info? (ρ.t 24)).map (·.size)=some 1
 v0:(P.info? (ρ.t 0)).bind (·.zero)=some (Value.tuple #[])
 v3:(P.info? (ρ.t 3)).bind (·.zero)=some (Value.int IntKind.i64 0)
 v4:(P.info? (ρ.t 4)).bind (·.zero)=some (Value.bool false)
 v24:(P.info? (ρ.t 24)).bind (·.zero)=some (Value.slice none 0 0)
theorem lp.ins(h:lp P ρ)(hm:P.follows .mixedOrders=true)(f22:P.funcs[ρ.f 22]? =some { Body2.n22 ρ with name:=nm })(n22:(nm== "runtime.NumGoroutine")=false)(f29:P.funcs[ρ.f 29]? =some fv)(n29:(fv.name== "runtime.NumGoroutine")=false)
  (b29:fv.body.isNone=true) (e29:Extern.findNext fv=none) (x29:Extern.find fv=some (Extern.SlicesOverlaps.overlaps #[(ρ.t 24),(ρ.t 24)] #[(ρ.t 4)])):dB P ρ nm fv:=
 ⟨hm,f22,n22,f29,n29,b29,e29,x29,h.t0,run_isAgg_plain h.t0 rfl,Qv h.s0,Yn h.v0,h.t3,run_isAgg_plain h.t3 rfl,Qv h.s3,Yn h.v3,h.t4,run_isAgg_plain h.t4 rfl,Qv h.s4,Yn h.v4,h.t24,run_isAgg_plain h.t24 rfl,Qv h.s24,Yn h.v24⟩
theorem lp.del(h:lp P ρ)(hm:P.follows .mixedOrders=true)(f24:P.funcs[ρ.f 24]? =some { Body2.n24 ρ with name:=nm })(n24:(nm== "runtime.NumGoroutine")=false):pD P ρ nm:=
 ⟨hm,f24,n24,h.t0,run_isAgg_plain h.t0 rfl,Qv h.s0,Yn h.v0,h.t3,run_isAgg_plain h.t3 rfl,Qv h.s3,Yn h.v3,h.t4,run_isAgg_plain h.t4 rfl,Qv h.s4,Yn h.v4,h.t24,run_isAgg_plain h.t24 rfl,Qv h.s24,Yn h.v24⟩
@[reducible] def Jf (f22 f24 f29 f30 t24 t9:Nat):Ren:=⟨fun k=>if k=22 then f22 else if k=24 then f24 else if k=29 then f29 else if k=30 then f30 else k,fun k=>if k=24 then t24 else if k=9 then t9 else k,fun k=>k⟩
def APl{T:Jp}(hT:Em P T)(L:dB P ρ nm fv){r:Ty}{f:Nat}(hf:ρ.f 22=f)(UR:T.ND (ρ.t 24) r=true)(hr:(r.flat&&(decide (mk r=1)&&decide (0<r.n)))=true)(g:(ry r).Cu (Option (y9 r).V))
  (hg:∀v:(ry r).V,(ry r).un g v=(xD v.1.2.1 v.1.2.2.1 v.2.1).map fun l=>(((),()),((),l,()))):SP P:=
 ⟨f,⟨ry r,y9 r,(ry r).un g⟩,by
  simp only[AMC,AMi]at hr;rw[funext hg,←hf];grind[vP]⟩
def Ab5{T:Jp}(hT:Em P T)(L:pD P ρ nm){r:Ty}{f:Nat}(m:Nat)(hf:ρ.f 24=f)(UR:T.ND (ρ.t 24) r=true)(hr:decide (0<r.n)=true)(g:(tH (m+1) r).Cu (Option (yo (m+1) r).V))
  (hg:∀v:(tH (m+1) r).V,(tH (m+1) r).un g v=(AEo v.1.2.1 v.1.2.2.1 v.2.1).map fun l=>(((),()),((),l,()))):SP P:=
 ⟨f,⟨tH (m+1) r,yo (m+1) r,(tH (m+1) r).un g⟩,by
  rw[funext hg,←hf];exact uh hT L UR (of_decide_eq_true hr) m⟩
end
end Go.Fw
end
