/- The framework, part 2: a checked interpreter of the model's code over abstract states; no claim is made here. -/
import Derived.Test.YtebiojjohcpanaaGreatF0
import Derived.Below
import Derived.ChangeArms
import Derived.ChangeOld
import Derived.DataReads
import Derived.OrdersHeld
import Derived.Shelf.Slices.Delete
import Derived.Shelf.Spec.SlicesInsertGrow
import Derived.Tactics
set_option linter.unusedVariables false
set_option linter.unusedSimpArgs false
set_option linter.unusedSectionVars false
section
namespace Go.Fw
def alive(l:List BP)(i:Nat):Bool:=
 match l[i]? with
 |some .gone=>false
 |some _=>true
 |none=>false
def AP.LO(l:List BP):AP→Bool
 | .sl s _=>s
 | .mb _=>false
 | .jb _ _=>false
 | .qP _ _=>false
 | .ref i=>decide (i<l.length)
 | .ptr i _=>alive l i
 | .fn _ KM=>KM.all (alive l)
 |_=>true
def XP.LO(l:List BP):XP→Bool
 | .c p=>p.LO l
 | .agg q=>q.all (AP.LO l)
 | .Mh q=>q.all fun| .inl p=>p.LO l| .inr q=>q.all (AP.LO l)
 | .row _=>false
def BP.LO(l:List BP):BP→Bool
 | .mem q=>q.all (AP.LO l)
 |_=>true
def kinds:List BP→List BP→Bool
 |[],_=>true
 | .mem _::l,.mem _::m=>kinds l m
 | .sl _ r::l,.sl _ q::m=>decide (r=q)&&kinds l m
 | .mem _::l,.gone::m=>kinds l m
 | .sl _ _::l,.gone::m=>kinds l m
 |_,_=>false
def kM(l:List BP):List (Nat×XP)→Bool
 |[(0,p)]=>p.LO l
 |_=>false
def QP.ok(c:QP):Bool:=
 kinds c.ins.Gu c.outs.Gu&&kM c.outs.Gu c.outs.Dz&&c.outs.Gu.all (BP.LO c.outs.Gu)
theorem Wl:∀{l m:List BP},kinds l m=true→l.length≤m.length∧ ∀(i:Nat) p,l[i]? =some p→p≠ .gone∧ ∀d r,m[i]? =some (.sl d r)→ ∃d',p= .sl d' r
 |[],m,_=>⟨by simp,fun i p h=>by simp at h⟩
 | .gone::l,[],h=>by simp[kinds]at h
 | .gone::l,_::_,h=>by simp[kinds]at h
 | .mem _::l,[],h=>by simp[kinds]at h
 | .sl _ _::l,[],h=>by simp[kinds]at h
 | .mem q::l,.mem _::m,h=>by
  obtain⟨h1,h2⟩:=Wl (l:=l) (m:=m) (by simpa[kinds]using h);grind
 | .mem q::l,.gone::m,h=>by
  obtain⟨h1,h2⟩:=Wl (l:=l) (m:=m) (by simpa[kinds]using h);grind
 | .mem q::l,.sl _ _::m,h=>by simp[kinds]at h
 | .sl d0 r0::l,.sl _ q::m,h=>by
  simp only[kinds,ALp,AMC]at h;obtain⟨h1,h2⟩:=Wl (l:=l) (m:=m) h.2;grind
 | .sl d0 r0::l,.gone::m,h=>by
  obtain⟨h1,h2⟩:=Wl (l:=l) (m:=m) (by simpa[kinds]using h);grind
 | .sl _ _::l,.mem _::m,h=>by simp[kinds]at h
def XG(P:Program)(f:Nat)(c:QP):Prop:=
 c.ok=true∧(∀args w,(callFunc f args).run P w= .ok (.enter f args) w)∧
 ∀(E:Env) (w:World) (v:c.ins.V) (args:Array Value) (u:c.outs.V),args.size=c.ins.Dz.length→
  C_ E w (Jj.mk id c.ins.Gu v.2) (Jj.mk id c.ins.Gu v.2) []→N7 E w (Jj.mk id c.ins.Gu v.2) id c.ins.Dz v.1 args.toList→c.g v=some u→
  Calls P f args w fun e w' => ∃x E',e= .returned x∧cw E w E' w'∧C_ E' w' (Jj.mk id c.outs.Gu u.2) (Jj.mk id c.outs.Gu u.2) []∧
   N7 E' w' (Jj.mk id c.outs.Gu u.2) id c.outs.Dz u.1 [x]∧ ∀i,i<c.ins.Gu.length→alive c.outs.Gu i=true→E'.Ht i=E.Ht i∧E'.Hu i=E.Hu i
theorem iS:∀x:AV,Ga [] x=x
 | .ref b (s::p)=>by rfl
 | .ref b []=>rfl
 | .win b (s::p) i n=>by rfl
 | .win b [] i n=>rfl
 | .JX b (s::p) i sz j=>by rfl
 | .JX b [] i sz j=>rfl
 | .v _ _=>rfl
 | .sl _ _ _=>rfl
 | .nil=>rfl
 | .IG _ _=>rfl
 | .PB _ _ _ _=>rfl
 | .fn _ _=>rfl
 | .qP _ _=>rfl
 | .xj=>rfl
 | .undef=>rfl
theorem ZE:Ga []=id:=funext iS
theorem tg:∀x:XV,UN [] x=x
 | .c x=>by simp[UN,iS]
 | .agg l=>by simp[UN,ZE]
 | .Mh l=>by
  simp only[UN,ZE];congr 1
  conv=>rhs;rw[←List.map_id l]
  apply ASl;intro x _;cases x with
  |inl x=>simp
  |inr q=>simp
theorem sM(m:PD)(σ:St):(σ.Yr m).tm=σ.tm.map (UN m):=by
 cases m with
 |nil=>
  simp only[St.Yr];have:UN []=id:=funext tg;simp_all
 |cons _ _=>rfl
theorem ABo(m:PD)(σ:St):(σ.Yr m).bx=σ.bx.map (Bx.map (Ga m)):=by
 cases m with
 |nil=>grind[St.Yr,ZE,Zk]
 |cons _ _=>
  rfl
theorem ck(f:AV→AV):∀(m:PD) (bx:List Bx),Cz (bx.map (Bx.map f)) m=(Cz bx m).map (Bx.map f)
 |[],_=>rfl
 |none::m,bx=>by simp only[Cz];exact ck f m bx
 |some b::m,bx=>by
  simp only[Cz];rw[←ck f m (bx.set b .dead),List.map_set];rfl
theorem Qs:∀{m:PD} {bx:List Bx} {b:Nat},some b∉m→(Cz bx m)[b]? =bx[b]?
 |[],_,_,_=>rfl
 |none::m,bx,b,h=>by simp only[Cz];exact Qs (by simp_all)
 |some c::m,bx,b,h=>by
  simp only[Cz];rw[Qs (by simp_all),AR8 (by grind)]
theorem AAp{E E':Env}{w w':World}{vw vw':List Bx}{m:PD}(k:SR E w vw E' w' (Cz vw' m))
  (hb:∀b d' r C1,some b∈m→vw'[b]? =some (.sl d' r C1)→ ∃d rows,vw[b]? =some (.sl d r rows)∧List.length C1=List.length rows∧E'.Hu b=E.Hu b) (hlen:vw.length≤vw'.length) {x:AV} {v:Value} (h:VR E w vw x v):VR E' w' vw' (Ga m x) v:=by
 have h1:=GK k h;have dX:∀{b'},some b'∉m→(Cz vw' m)[b']? =vw'[b']?:=fun e=>Qs e
 have get:∀{b'},b'<vw.length→ ∃B,vw'[b']? =some B:=fun hl=>⟨_,ALR (by omega)⟩
 cases x with
 |v t x=>exact h1
 |sl s r x=>exact h1
 |nil=>exact h1
 |IG c j=>exact⟨by simpa[KJ]using h1.1,h1.2⟩
 |PB s r x j=>exact h1
 |fn f KM=>exact⟨fun c hc=>by simpa[KJ]using h1.1 c hc,h1.2⟩
 |qP f rows=>exact h1
 |xj=>exact h1
 |undef=>trivial
 |ref c p=>
  have other:some c∉m→VR E' w' vw' (.ref c p) v:=fun e=>by
   grind[VR]
  cases p with
  |nil=>
   simp only[Ga];by_cases e:some c∈m
   ·simp only[VR]at h⊢
    obtain⟨h0,h⟩:=h;refine⟨h0,?_⟩;cases hc:vw[c]? with
    |none=>simp_all
    |some B=>
     obtain⟨B',TF⟩:=get (ALf.1 hc).1;rw[TF];cases B' with
     |mem cs=>trivial
     |dead=>trivial
     |sl d' r C1=>
      obtain⟨d,rows,e1,e2,e3⟩:=hb c d' r C1 e TF;rw[e1]at h;refine⟨by simp[DE],⟨_,rfl⟩,?_⟩;grind[DB]
   simp_all
  |cons s p=>
   simp only[Ga];split
   ·trivial
   simp_all
 |win c p off n=>
  have other:some c∉m→VR E' w' vw' (.win c p off n) v:=fun e=>by
   grind[VR]
  cases p with
  |nil=>
   simp only[Ga];by_cases e:some c∈m
   ·simp only[VR]at h⊢
    obtain⟨h0,h⟩:=h;refine⟨h0,?_⟩;cases hc:vw[c]? with
    |none=>simp_all
    |some B=>
     obtain⟨B',TF⟩:=get (ALf.1 hc).1;rw[TF];cases B' with
     |mem cs=>trivial
     |dead=>trivial
     |sl d' r C1=>
      obtain⟨d,rows,e1,e2,e3⟩:=hb c d' r C1 e TF;rw[e1]at h;obtain⟨_,q,ys,a,len,cap,g1,g2,g3,g4⟩:=h;simp only[G5,ALW,AMn]at g1;obtain⟨rfl,g1⟩:=g1;obtain rfl:=AQ3 g1;rw[DB]at g3;exact⟨by simp[DE],r,C1,a,len,cap,rfl,by omega,by grind[DB],g4⟩
   simp_all
  |cons s p=>
   simp only[Ga];split
   ·trivial
   simp_all
 |JX c p i sz j=>
  have other:some c∉m→VR E' w' vw' (.JX c p i sz j) v:=fun e=>by
   grind[VR]
  cases p with
  |nil=>
   simp only[Ga];by_cases e:some c∈m
   ·simp only[VR]at h⊢
    obtain⟨h0,h⟩:=h;refine⟨h0,?_⟩;cases hc:vw[c]? with
    |none=>simp_all
    |some B=>
     obtain⟨B',TF⟩:=get (ALf.1 hc).1;rw[TF];cases B' with
     |mem cs=>trivial
     |dead=>trivial
     |sl d' r C1=>
      obtain⟨d,rows,e1,e2,e3⟩:=hb c d' r C1 e TF;rw[e1]at h;obtain⟨_,q,ys,bb,o,len,cap,g1,g2,g3,g4⟩:=h;simp only[G5,ALW,AMn]at g1;obtain⟨rfl,g1⟩:=g1;obtain rfl:=AQ3 g1;rw[DB]at g3;exact⟨by simp[DE],r,C1,bb,o,len,cap,rfl,by omega,by grind[DB],g4⟩
   simp_all
  |cons s p=>
   simp only[Ga];split
   ·trivial
   simp_all
theorem ABj{E E':Env}{w w':World}{vw vw':List Bx}{m:PD}(k:∀x v,VR E w vw x v→VR E' w' vw' (Ga m x) v){x:XV}{v:Value}(h:XR E w vw x v):XR E' w' vw' (UN m x) v:=by
 cases x with
 |c x=>exact k x v h
 |agg l=>
  obtain⟨vs,rfl,VI⟩:=h;exact⟨vs,rfl,Cb.Ld _ k VI⟩
 |Mh l=>
  obtain⟨vs,rfl,VI⟩:=h;refine⟨vs,rfl,Cb.Ld _ (fun x v hx=> ?_) VI⟩;cases x with
  |inl x=>exact k x v hx
  |inr q=>
   obtain⟨us,rfl,hus⟩:=hx;exact⟨us,rfl,Cb.Ld _ k hus⟩
def Lm(I_:Nat→Nat):Nat→List Bx→List Bx→List Bx
 |_,[],bx=>bx
 |i,B::l,bx=>Lm I_ (i+1) l (if I_ i<bx.length then bx.set (I_ i) B else bx++[B])
theorem lV(I_:Nat→Nat):∀(i:Nat) (l:List BP) (x:Jj.V l) (bx:List Bx),ZR I_ i l x bx=Lm I_ i (Jj.mk I_ l x) bx
 |_,[],_,_=>rfl
 |i,p::l,x,bx=>by simp only[ZR,Jj.mk,Lm];exact lV I_ (i+1) l x.2 _
structure vI (I_:Nat→Nat) (M N:Nat):Prop where
 lt:∀k,k<M→I_ k<N
 eq:∀k,M≤k→I_ k=N+(k-M)
 inj:∀k k',k<M→k'<M→I_ k=I_ k'→k=k'
theorem vI.AVI{I_:Nat→Nat}{M N:Nat}(h:vI I_ M N){k k':Nat}(e:I_ k=I_ k'):k=k':=by
 by_cases h1:k<M
 ·by_cases h2:k'<M
  ·exact h.inj k k' h1 h2 e
  ·have:=h.lt k h1
   have:=h.eq k' (by omega);omega
 ·by_cases h2:k'<M
  ·have:=h.lt k' h2
   have:=h.eq k (by omega);omega
  ·have:=h.eq k (by omega)
   have:=h.eq k' (by omega);omega
theorem eW{I_:Nat→Nat}{M N:Nat}(h:vI I_ M N):∀{l:List Bx} {i:Nat} {bx:List Bx},bx.length=N+(i-M)→
  (Lm I_ i l bx).length=N+(i+l.length-M)∧(∀(j:Nat) B,l[j]? =some B→(Lm I_ i l bx)[I_ (i+j)]? =some B)∧
   ∀n,n<bx.length→(∀j,j<l.length→I_ (i+j)≠n)→(Lm I_ i l bx)[n]? =bx[n]?
 |[],i,bx,hl=>⟨by grind[Lm],fun j B hj=>by simp_all,fun _ _ _=>rfl⟩
 |B::l,i,bx,hl=>by
  simp only[Lm];have iU:(if I_ i<bx.length then bx.set (I_ i) B else bx++[B]).length=N+(i+1-M):=by
   split
   ·rename_i Jq
    by_cases hi:i<M
    ·grind
    ·have:=h.eq i (by omega);omega
   ·rename_i Jq
    by_cases hi:i<M
    ·have:=h.lt i hi;omega
    grind
  have Z1:(if I_ i<bx.length then bx.set (I_ i) B else bx++[B])[I_ i]? =some B:=by
   split
   ·simp_all
   ·rename_i Jq
    by_cases hi:i<M
    ·grind
    ·have:=h.eq i (by omega)
     grind
  obtain⟨q1,q2,q3⟩:=eW h (l:=l) iU;refine⟨by grind,fun j C hj=> ?_,fun n hn bM=> ?_⟩
  ·cases j with
   |zero=>
    simp at hj;subst hj;exact(q3 (I_ i) (ALf.1 Z1).1 (fun j hj e=>by have:=h.AVI e;omega)).trans Z1
   |succ j=>
    grind
  ·have AYM:=bM 0 (by simp)
   rw[ATU]at AYM;rw[q3 n (by omega) (fun j hj=>by have:=bM (j+1) (by simp_all);grind)];grind
theorem dO{I_:Nat→Nat}{M N:Nat}(h:vI I_ M N){E:Env}{w:World}{vw:List Bx}:∀{l:List Bx} {i:Nat} {bx:List Bx} {Fs:List ABI},bx.length=N+(i-M)→(∀k,i≤k→k<M→bx[I_ k]? =some .dead)→
  Fs.length=l.length→(∀(j:Nat) B F,l[j]? =some B→Fs[j]? =some F→pR E w vw (I_ (i+j)) B F)→C_ E w vw bx Fs.flatten→C_ E w vw (Lm I_ i l bx) []
 |[],i,bx,Fs,hl,hd,hF,hB,ug=>by
  grind[List.eq_nil_of_length_eq_zero,Lm]
 |B::l,i,bx,F::Fs,hl,hd,hF,hB,ug=>by
  simp only[Lm];have hBi:=hB 0 B F rfl rfl;rw[ATU]at hBi;have next:∀{QX},QX.length=N+(i+1-M)→(∀k,i+1≤k→k<M→QX[I_ k]? =some .dead)→C_ E w vw QX Fs.flatten→C_ E w vw (Lm I_ (i+1) l QX) []:=by
   intro QX h1 h2 h3;refine dO h h1 h2 (by simp_all) (fun j C G hC hG=> ?_) h3;have:=hB (j+1) C G (by simp_all) (by simp_all);grind
  rw[ATB]at ug;by_cases hi:i<M
  ·have Jq:=h.lt i hi
   rw[ALI (by omega)];refine next (by grind) (fun k hk1 hk2=> ?_) (ug.put (hd i (APz _) hi) hBi);rw[AR8 (fun e=>by have:=h.AVI e;omega)];grind
  ·have heq:=h.eq i (by omega)
   rw[ALT (by omega)];have e1:I_ i=bx.length:=by omega
   rw[e1]at hBi;exact next (by grind) (fun k hk1 hk2=>by omega) (ug.push hBi)
 |_::_,_,_,[],_,_,hF,_,_=>by simp_all
structure uQ (E' E2:Env) (l:List BP) (u:Jj.V l) (vw2:List Bx) (I_:Nat→Nat):Prop where
 ids:∀i,alive l i=true→E2.Ht (I_ i)=E'.Ht i∧E2.Hu (I_ i)=E'.Hu i
 bx:∀(i:Nat) p,l[i]? =some p→ ∃y,(Jj.mk id l u)[i]? =some (p.mk id y)∧vw2[I_ i]? =some (p.mk I_ y)
 S:E2.S=E'.S
theorem ah(I_:Nat→Nat):∀{l:List BP} {u:Jj.V l} {i:Nat} {p:BP},l[i]? =some p→ ∃y:p.V,(Jj.mk id l u)[i]? =some (p.mk id y)∧(Jj.mk I_ l u)[i]? =some (p.mk I_ y)
 |q::l,u,0,p,h=>by
  simp at h;subst h;exact⟨u.1,rfl,rfl⟩
 |q::l,u,i+1,p,h=>by
  obtain⟨y,h1,h2⟩:=ah I_ (u:=u.2) (i:=i) (by simpa using h);grind[Jj.mk]
 |[],_,_,_,h=>by simp at h
theorem TM(I_:Nat→Nat):∀{l:List BP} {u:Jj.V l},(Jj.mk I_ l u).length=l.length
 |[],_=>rfl
 |_::l,u=>by simp[Jj.mk,TM I_ (l:=l)]
section
variable{E' E2:Env} {w:World} {l:List BP} {u:Jj.V l} {vw2:List Bx} {I_:Nat→Nat} (r:uQ E' E2 l u vw2 I_)
include r
omit r in
theorem rQ{i:Nat}(h:alive l i=true):∃p,l[i]? =some p∧p≠ .gone:=by
 unfold alive at h;cases e:l[i]? with
 |none=>rw[e]at h;cases h
 |some p=>
  refine⟨p,rfl,fun hp=> ?_⟩;rw[e,hp]at h;cases h
theorem yJ{p:AP}{y:p.V}{v:Value}(Bz:p.LO l=true)(h:VR E' w (Jj.mk id l u) (p.mk id y) v):VR E2 w vw2 (p.mk I_ y) v:=by
 cases p with
 |v t=>exact h
 |sl s q=>
  simp only[AP.LO]at Bz;subst Bz;simp only[AP.mk,VR,ASe]at h⊢;rw[r.S];omega
 |nil=>exact h
 |ref i=>
  simp only[AP.LO,AMC]at Bz;obtain⟨p,hp⟩:∃p,l[i]? =some p:=⟨_,ALR Bz⟩;obtain⟨z,z1,z2⟩:=r.bx i p hp;simp only[AP.mk,VR,id]at h⊢;refine⟨h.1,?_⟩;have h2:=h.2;rw[z1]at h2;rw[z2];cases p with
  |mem q=>trivial
  |gone=>trivial
  |sl d q=>
   have hid:=(r.ids i (by simp[alive,hp])).2;grind[BP.mk]
 |ptr i j=>
  simp only[AP.LO]at Bz;obtain⟨p,hp,hg⟩:=rQ Bz;obtain⟨z,z1,z2⟩:=r.bx i p hp;refine⟨(ALf.1 z2).1,?_⟩;rw[(r.ids i Bz).1];exact h.2
 |mb q=>simp[AP.LO]at Bz
 |jb i sz=>simp[AP.LO]at Bz
 |qP f rs=>simp[AP.LO]at Bz
 |fn f KM=>
  simp only[AP.LO,AS0]at Bz;obtain⟨h1,h2⟩:=h;refine⟨fun b hb=> ?_,?_⟩
  ·obtain⟨i,hi,rfl⟩:=ASt.1 hb
   obtain⟨p,hp,_⟩:=rQ (Bz i hi);obtain⟨z,_,z2⟩:=r.bx i p hp;grind
  ·rw[h2,ATj]
   congr 2
   rw[ATj];apply ASl;intro i hi;simp only[Function.comp,id,(r.ids i (Bz i hi)).1]
 |any=>trivial
theorem nH:∀{q:List AP} {y:XW.V q} {vs:List Value},q.all (AP.LO l)=true→gi E' w (Jj.mk id l u) (XW.mk id q y) vs→gi E2 w vw2 (XW.mk I_ q y) vs
 |[],_,[],_,_=>trivial
 |[],_,_::_,_,h=>h.elim
 |p::q,y,[],_,h=>h.elim
 |p::q,y,v::vs,Bz,h=>by
  simp only[AS3,ALp]at Bz;exact⟨yJ r Bz.1 h.1,nH Bz.2 h.2⟩
theorem tD:∀{q:List (AP ⊕ List AP)} {y:Xq.V q} {vs:List Value},(q.all fun| .inl p=>p.LO l| .inr q=>q.all (AP.LO l))=true→Cb (TR E' w (Jj.mk id l u)) (Xq.mk id q y) vs→Cb (TR E2 w vw2) (Xq.mk I_ q y) vs
 |[],_,[],_,_=>trivial
 |[],_,_::_,_,h=>h.elim
 | .inl p::q,y,[],_,h=>h.elim
 | .inr p::q,y,[],_,h=>h.elim
 | .inl p::q,y,v::vs,Bz,h=>by
  simp only[AS3,ALp]at Bz;exact⟨yJ r Bz.1 h.1,tD Bz.2 h.2⟩
 | .inr p::q,y,v::vs,Bz,h=>by
  simp only[AS3,ALp]at Bz;obtain⟨us,e,hus⟩:=h.1;exact⟨⟨us,e,nH r Bz.1 hus⟩,tD Bz.2 h.2⟩
theorem AOH{p:XP}{y:p.V}{v:Value}(Bz:p.LO l=true)(h:XR E' w (Jj.mk id l u) (p.mk id y) v):XR E2 w vw2 (p.mk I_ y) v:=by
 cases p with
 |c p=>exact yJ r Bz h
 |agg q=>
  obtain⟨vs,e,VI⟩:=h;exact⟨vs,e,nH r Bz VI⟩
 |row q=>simp[XP.LO]at Bz
 |Mh q=>
  obtain⟨vs,e,VI⟩:=h;exact⟨vs,e,tD r Bz VI⟩
theorem AQS{i:Nat}{p:BP}{y:p.V}{F:ABI}(hi:l[i]? =some p)(Bz:p.LO l=true)(h:pR E' w (Jj.mk id l u) i (p.mk id y) F):pR E2 w vw2 (I_ i) (p.mk I_ y) F:=by
 cases p with
 |mem q=>
  obtain⟨h1,arr,ty,fr,h2,h3,h4⟩:=h;have hid:=(r.ids i (by simp[alive,hi])).1;exact⟨by simp_all,arr,ty,fr,by simp_all,h3,nH r Bz h4⟩
 |sl d q=>
  obtain⟨h1,h2⟩:=h;refine⟨h1,?_⟩;rw[(r.ids i (by simp[alive,hi])).2,r.S];omega
 |gone=>exact h
end
end Go.Fw
end
section
namespace Go.Fw
theorem uZ{s:BX}{N:Nat}{m0 m:PD}{tm:List XV}{bx:List Bx}{x:s.V}(e:s.fit N m0 tm bx=some (x,m)):∀(k:Nat) p,s.Gu[k]? =some p→p≠ .gone→ ∃b B,m[k]? =some (some b)∧bx[b]? =some B∧B≠ .dead∧
  ∀d r,p= .sl d r→ ∃d' rows,B= .sl d' r rows:=by
 simp only[BX.fit,ALt,ALe]at e;obtain⟨m1,e1,m2,e2,a,e3,c,e4,e5⟩:=e;cases e5;obtain⟨q1,q2⟩:=SN (I_:=id) e4;grind
theorem AD6(n:Nat):oL (List.replicate n none):=fun i j b h=>by
 grind
theorem xX{w:World}{B B':Nat→Prop}{w':World}{r:Ty}{v:Value}{x y:List r.D}(h:Rd w B (.sl r) [v] x)(h':Rd w' B' (.sl r) [v] y):y.length=x.length:=by
 simp only[Rd]at h h';grind
section
variable{Y:Type} {P:Program} {E:Env} {σ:St} {a:Act} {w:World} {k:K Y} {y:Y}
theorem rF{E' E2:Env}{l:List BP}{u:Jj.V l}{vw2:List Bx}{I_:Nat→Nat}(r:uQ E' E2 l u vw2 I_):∀{sl:List (Nat×XP)} {z:Gx.V sl} {x:Value},
  kM l sl=true→N7 E' w (Jj.mk id l u) id sl z [x]→XR E2 w vw2 (da sl z I_) x
 |[(0,p)],z,x,Bz,h=>by
  obtain⟨⟨v,hv,hx⟩,_⟩:=h;simp at hv;subst hv;exact AOH r Bz hx
 |[],_,_,Bz,_=>by simp[kM]at Bz
 |(_+1,_)::_,_,_,Bz,_=>by simp[kM]at Bz
 |(0,_)::_::_,_,_,Bz,_=>by simp[kM]at Bz
def dx(c:QP)(xs:List XV)(σ:St):ABI:=
 match c.ins.fit σ.bx.length c.ins.m0 xs (c.ins.opens σ.bx)with
 |some (_,m)=>m.filterMap id
 |none=>[]
theorem sI(h:Rel E σ a w)(s:BX):∃E',Rel E' { σ with bx:=s.opens σ.bx } a w∧Q6 [] E σ.bx w E' (s.opens σ.bx) w∧(∀(i:Nat) d r,s.Gu[i]? =some (.sl d r)→E'.Hu (σ.bx.length+i)= .slice none 0 0)∧
  (∀x v,XR E w σ.bx x v→XR E' w (s.opens σ.bx) x v):=by
 let E':Env:={ E with Hu:=fun k=>if k<σ.bx.length then E.Hu k else .slice none 0 0 }
 have hlen:σ.bx.length≤(s.opens σ.bx).length:=by simp[BX.opens]
 have hold:∀b,b<σ.bx.length→(s.opens σ.bx)[b]? =σ.bx[b]?:=fun b hb=>by grind[BX.opens,List.getElem?_append_left]
 have mY:∀b,b<σ.bx.length→E'.Hu b=E.Hu b:=fun b hb=>by grind
 have keep:SR E w σ.bx E' w (s.opens σ.bx):=
  ⟨hlen,fun _ _=>rfl,fun _ h=>h,fun _ h=>h,h.bx.st,fun _ _=>rfl,fun b d r rows hb e=>⟨d,rows,by simp_all,fun p hp q ys hg=>⟨hp,⟨ys,hg,rfl⟩,fun hh he=>by simp_all⟩⟩⟩
 obtain⟨Fs,⟨f1,f2⟩,f3⟩:=h.bx;refine⟨E',⟨h.NO,h.tm.imp fun _ _ hx=>O1 keep hx,?_⟩,?_,fun i d r hi=>by grind,fun x v hx=>O1 keep hx⟩
 ·refine⟨Fs++List.replicate s.Gu.length [],⟨by simp[BX.opens,f1],fun n B F hB hF=> ?_⟩,?_⟩
  ·by_cases hn:n<σ.bx.length
   ·rw[hold n hn]at hB
    rw[ANA (by omega)]at hF;have:=f2 n B F hB hF;cases B with
    |mem cs=>
     obtain⟨rfl,arr,ty,fr,a1,a2,a3⟩:=this;exact⟨rfl,arr,ty,fr,a1,a2,a3.imp fun _ _ hv=>GK keep hv⟩
    |sl d r rows=>exact⟨this.1,by rw[mY n hn];exact this.2⟩
    |dead=>exact this
   ·rw[AOU (by omega)]at hF
    have hF':F=[]:=AS7 (ANO hF);subst hF';simp only[BX.opens]at hB;rw[AOU (by omega),ARB,ALe]at hB;obtain⟨p,_,rfl⟩:=hB;have hh:E'.Hu n= .slice none 0 0:=by grind
    cases p with
    |mem q=>rfl
    |gone=>rfl
    |sl d r=>exact⟨by omega,by rw[hh];exact pn⟩
  ·have:(Fs++List.replicate s.Gu.length []).flatten=Fs.flatten:=by simp
   rw[this];exact⟨f3.nodup,f3.free,f3.lt,f3.st,f3.cA⟩
 ·refine⟨⟨fun _ h=>h,fun _ h=>h,fun _ h=> .inl h,fun _ h=> .inl h,fun _ _=>rfl,rfl,rfl,rfl,APz _⟩,hlen,fun b hb=>⟨rfl,mY b hb⟩,fun b hb=> ?_,fun n B B' _ hB TF hd=> ?_⟩
  ·grind
  ·rw[hold n (ALf.1 hB).1,hB]at TF
   cases TF;exact⟨U1.refl hd,fun _ _=>rfl⟩
theorem Q6.after{t:ABI}{E E' E'':Env}{bx QX AWO:List Bx}{w w':World}(h:Q6 [] E bx w E' QX w)(hb:∀b,b<bx.length→QX[b]? =bx[b]?)(k:Q6 t E' QX w E'' AWO w'):Q6 t E bx w E'' AWO w':=
 ⟨h.base.trans k.base,ARE h.len k.len,fun b Jq=>⟨(k.ids b (ASh Jq h.len)).1.trans (h.ids b Jq).1,(k.ids b (ASh Jq h.len)).2.trans (h.ids b Jq).2⟩,fun b hd=>k.dead b (h.dead b hd),fun n B B' hn hB TF hd=>by
  have Jq:=(ALf.1 hB).1;obtain⟨k1,k2⟩:=k.frame n B B' hn (by simp_all) TF hd;refine⟨k1,fun c hc=>k2 c ?_⟩;cases B with
  |mem cs=>simp only[xH]at hc⊢;rw[(h.ids n Jq).1];omega
  |sl d r rows=>simp only[xH]at hc⊢;rw[(h.ids n Jq).2];omega
  |dead=>exact hc⟩
def ALg(c:QP)(N:Nat)(xs:List XV)(σ:St)(k:K Y):Option Y:=
 match c.ins.fit N c.ins.m0 xs σ.bx with
 |some (v,m)=>(c.g v).bind fun u=>
  let I_:=Xf m σ.bx.length
  let σ1:=σ.Yr m
  k (da c.outs.Dz u.1 I_) { σ1 with bx:=ZR I_ 0 c.outs.Gu u.2 (Cz σ1.bx m) }
 |none=>none
def xU(c:QP)(N:Nat)(xs:List XV)(σ:St):ABI:=
 match c.ins.fit N c.ins.m0 xs σ.bx with
 |some (_,m)=>m.filterMap id
 |none=>[]
theorem y6{f:Nat}{c:QP}(hc:XG P f c)(h:Rel E σ a w){N0:Nat}(th:∀(i:Nat) d r,c.ins.Gu[i]? =some (.sl d r)→E.Hu (N0+i)= .slice none 0 0){xs:List XV}{vs:List Value}(hxs:Cb (XR E w σ.bx) xs vs)(hlen:xs.length=c.ins.Dz.length)(e:ALg c N0 xs σ k=some y):
  Calls P f vs.toArray w fun e w' => ∃x E' xv σ',e= .returned x∧Rel E' σ' a w'∧XR E' w' σ'.bx xv x∧Q6 (xU c N0 xs σ) E σ.bx w E' σ'.bx w'∧σ'.tm.length=σ.tm.length∧k xv σ' =some y:=by
 obtain⟨Bz,_,rf⟩:=hc;simp only[QP.ok,ALp]at Bz;obtain⟨⟨hk,hslot⟩,hbo⟩:=Bz;obtain⟨hklen,hk⟩:=Wl hk;unfold ALg at e;split at e
 case h_2=>cases e
 rename_i v m cq;simp only[ALt]at e;obtain⟨u,hg,e⟩:=e;obtain⟨_,E1,hf⟩:=kq h.bx hxs th (by simp[BX.m0]) (AD6 _) cq;have O_:vs.toArray.size=c.ins.Dz.length:=by grind[Cb.len]
 refine(rf E1 w v vs.toArray u O_ hf.boxes (by simpa using hf.Dz) hg).mono fun e' w' hR=> ?_
 obtain⟨x,E',rfl,base,⟨Fs,hFs1,hFs2⟩,Dz,AFE⟩:=hR;simp only[AMa]at hFs2;obtain⟨Fk,k1,k2,k3,k4⟩:=hf.rest;have st:=h.bx.st;have cA:=h.bx.cA;have hM:m.length=c.ins.Gu.length:=hf.len;have all:∀i,i<m.length→ ∃b B,m[i]? =some (some b)∧σ.bx[b]? =some B∧B≠ .dead∧ ∀d r,c.ins.Gu[i]? =some (.sl d r)→ ∃d' rows,B= .sl d' r rows:=by
  intro i hi;have hp:c.ins.Gu[i]? =some (c.ins.Gu[i]'(by omega)):=ALR _;grind[uZ,Option.some.inj]
 let N:=σ.bx.length
 let M:=m.length
 have AF6:∀i b,m[i]? =some (some b)→Xf m N i=b:=fun i b h=>by simp[Xf,h]
 have AV7:∀i,M≤i→Xf m N i=N+(i-M):=fun i hi=>by
  grind[List.getElem?_eq_none,Xf]
 have ro:vI (Xf m N) M N:=⟨fun i hi=>by
   grind,AV7,fun i j hi hj e=>by
   obtain⟨b,B,h1,h2,_⟩:=all i hi;obtain⟨b',B',h1',h2',_⟩:=all j hj;rw[AF6 i b h1,AF6 j b' h1']at e;subst e;exact hf.inj i j b h1 h1'⟩
 let E2:Env:={
   Ht:=fun n=>if n<N then E.Ht n else E'.Ht (M+(n-N))
   Hu:=fun n=>if n<N then E.Hu n else E'.Hu (M+(n-N))
   T:=fun c=>E.T c∨E'.S c
   S:=E'.S }
 have hS:∀c,E.S c→E'.S c:=fun d hd=>base.S d (hf.S d hd)
 have hSk:∀d∈Fk.flatten,¬E'.S d:=fun d hd hs=>by
  obtain⟨_,n2,_,n4⟩:=k3 d hd;exact(base.zq d hs).elim n2 (fun h=>h n4)
 have AEB:∀d,E.T d→w'.heap[d]? =w.heap[d]?:=fun d hd=>base.heap d (hf.T d hd)
 have AVK:∀d∈Fk.flatten,w'.heap[d]? =w.heap[d]?:=fun d hd=>base.heap d (k3 d hd).2.2.2
 have ATW:cw E w E2 w':=⟨fun d hd=> .inl hd,hS,fun d hd=>hd,fun d hd=>by
   rcases base.zq d hd with h|h
   ·exact hf.zq d h
   ·exact .inr fun ht=>h (hf.T d ht),AEB,base.os,base.tape,base.output,base.size⟩
 let vw':=Jj.mk id c.outs.Gu u.2
 let Bs:=Jj.mk (Xf m N) c.outs.Gu u.2
 let bk:=(Cz σ.bx m).map (Bx.map (Ga m))
 have hbk:Cz (σ.Yr m).bx m=bk:=by rw[ABo,ck]
 have Ad7:bk.length=N:=by simp[bk,KJ,N]
 let aA:=Lm (Xf m N) 0 Bs bk
 have Acz:ZR (Xf m N) 0 c.outs.Gu u.2 (Cz (σ.Yr m).bx m)=aA:=by rw[lV,hbk]
 obtain⟨s1,s2,s3⟩:=eW ro (l:=Bs) (i:=0) (bx:=bk) (by omega);have AdU:Bs.length=c.outs.Gu.length:=TM _;have oY:σ.bx.length≤aA.length:=by
  grind
 have rn:uQ E' E2 c.outs.Gu u.2 aA (Xf m N):=by
  refine⟨fun i hi=> ?_,fun i p hp=> ?_,rfl⟩
  ·by_cases him:i<M
   ·obtain⟨b,B,h1,h2,_⟩:=all i him
    have hbl:b<N:=(ALf.1 h2).1;have g1:=hf.ids i b h1;grind
   grind
  ·obtain⟨z,z1,z2⟩:=ah (Xf m N) (u:=u.2) hp
   grind
 have AFB:∀n,n<N→some n∉m→aA[n]? =bk[n]?:=fun n hn hm=>by
  grind
 have keep:SR E w σ.bx E2 w' (Cz aA m):=by
  refine⟨by rw[KJ];omega,fun b hb=>by grind,fun d hd=> .inl hd,hS,st,AEB,fun b d r rows hb hq=> ?_⟩;have hbm:some b∉m:=fun hm=>by grind[V0]
  rw[Qs hbm,AFB b hb hbm]at hq;have hq1:=AEm hq;have hq2:σ.bx[b]? =some (.sl d r rows):=by
   rcases R0 (FI.refl σ.bx) b _ hq1 with e|e
   all_goals grind
  refine⟨d,rows,hq2,fun p hp q ys hgp=>⟨hp,⟨ys,hgp,rfl⟩,fun h' hh=> ?_⟩⟩;have hFk:Fk[b]? =some (Fk[b]'(by rw[k1.1,KJ];omega)):=ALR _;obtain⟨_,ho⟩:=k1.2 b _ _ hq1 hFk;have e2:E2.Hu b=E.Hu b:=by grind
  grind[tZ,List.mem_flatten,List.mem_of_getElem?]
 have vr:∀x v,VR E w σ.bx x v→VR E2 w' aA (Ga m x) v:=fun x v hx=>by
  refine AAp keep (fun b d' r C1 hbm hq=> ?_) oY hx;obtain⟨i,hi,him⟩:=AQU hbm;have ASP:m[i]? =some (some b):=by grind
  obtain⟨b',B,h1,h2,h3,h4⟩:=all i hi;rw[ASP]at h1;cases h1;have hio:i<c.outs.Gu.length:=by omega
  have hp:c.outs.Gu[i]? =some c.outs.Gu[i]:=ALR hio;obtain⟨z,z1,z2⟩:=rn.bx i _ hp;rw[AF6 i b ASP,hq]at z2;have AYO:c.ins.Gu[i]? =some (c.ins.Gu[i]'(by omega)):=ALR _
  generalize c.outs.Gu[i]=po at z hp z1 z2
  cases po with
  |mem q=>simp[BP.mk]at z2
  |gone=>simp[BP.mk]at z2
  |sl d0 q=>
   simp only[BP.mk,ALW,Bx.sl.injEq]at z2;obtain⟨rfl,rfl,z2⟩:=z2;obtain rfl:=AQ3 z2;obtain⟨d1,hpo⟩:=(hk i _ AYO).2 _ _ hp;obtain⟨d2,rows,rfl⟩:=h4 d1 r (by simp_all);have hbl:b<N:=(ALf.1 h2).1;have eh:E2.Hu b=E.Hu b:=by grind
   refine⟨d2,rows,h2,?_,eh⟩;obtain⟨F0,hR0,_⟩:=h.bx.take h2;have hFi:Fs[i]? =some (Fs[i]'(by rw[hFs1.1,TM];omega)):=ALR _;obtain⟨_,we⟩:=hFs1.2 i _ _ z1 hFi;have hal:alive c.outs.Gu i=true:=by simp[alive,hp]
   rw[(AFE i (by omega) hal).2,(hf.ids i b ASP).2]at we;exact xX (XJ hR0.2) (XJ we)
 have gC:c.outs.Gu.all (BP.LO c.outs.Gu)=true:=hbo;have rel:Rel E2 { tm:=(σ.Yr m).tm,bx:=aA } a w':=by
  refine⟨h.NO,?_,?_⟩
  ·rw[sM]
   exact Cb.Ld _ (fun x v hx=>ABj vr hx) h.tm
  ·refine dO ro (Fs:=Fs) (by omega) (fun i _ hi=> ?_) (by rw[hFs1.1,TM];omega) (fun j B F hB hF=> ?_) ?_
   ·obtain⟨b,B,h1,h2,_⟩:=all i hi
    rw[AF6 i b h1];have hbl:b<(Cz σ.bx m).length:=by grind
    have hd:(Cz σ.bx m)[b]? =some .dead:=by
     rw[ALR hbl];exact congrArg some (V0 (ANO h1) (ALR hbl))
    simp only[bk];rw[ARB,hd];rfl
   ·rw[ASz]
    have qN:=(ALf.1 hB).1;have hp:c.outs.Gu[j]? =some (c.outs.Gu[j]'(by omega)):=ALR _;obtain⟨z,z1,z2⟩:=ah (Xf m N) (u:=u.2) hp;have TF:Bs[j]? =_:=z2;rw[hB]at TF;cases TF;exact AQS rn hp (AS0.1 gC _ (AL5 _)) (hFs1.2 j _ _ z1 hF)
   ·
    refine⟨Fk,⟨by simp[bk,k1.1],fun n B F hn hF=> ?_⟩,?_⟩
    ·simp only[bk]at hn
     rw[ARB,ALe]at hn;obtain⟨B0,hn,rfl⟩:=hn;have vm:n<N:=by grind
     have h3:=k1.2 n B0 F hn hF;have hFw:∀d∈F,w'.heap[d]? =w.heap[d]?:=fun d hd=>AVK d (ARg.2 ⟨F,ANO hF,hd⟩)
     have eb:E2.Ht n=E.Ht n:=by grind
     have eh:E2.Hu n=E.Hu n:=by grind
     cases B0 with
     |mem cs=>
      obtain⟨rfl,arr,ty,fr,ha,hu,hv⟩:=h3;exact⟨by rw[eb],arr,ty,fr,by simp_all,hu,Cb.Ld _ vr hv⟩
     |sl d r rows=>
      refine⟨h3.1,?_⟩;rw[eh];exact ES hS (fun d hd=>AEB d (st d hd)) hFw h3.2
     |dead=>exact h3
    ·refine⟨AMx.2 ⟨k2,hFs2.nodup,fun x hx z hz he=> ?_⟩,fun d hd ht=> ?_,fun d hd=> ?_,fun d hd=> .inr hd,fun d hd=> ?_⟩
     ·subst he
      exact hFs2.free x hz (base.T x (k3 x hx).2.2.2)
     ·rcases AOs.1 hd with hd|hd
      ·grind
      ·rcases ht with ht|ht
       ·exact hFs2.free d hd (base.T d (hf.T d ht))
       ·exact hFs2.free d hd (hFs2.st d ht)
     ·rcases AOs.1 hd with hd|hd
      ·grind
      ·exact hFs2.lt d hd
     ·rcases hd with hd|hd
      ·grind
      ·exact hFs2.cA d (hFs2.st d hd)
 have ATy:Q6 (xU c N0 xs σ) E σ.bx w E2 aA w':=by
  refine⟨ATW,oY,fun n hn=>⟨by grind,by grind⟩,fun n hn=> ?_,fun n B B' hnt hB TF qO=> ?_⟩
  rotate_left 1
  ·have vm:=(ALf.1 hB).1
   have rb:some n∉m:=fun hm=>hnt (by
    simp only[xU,cq,List.mem_filterMap];simp_all)
   rw[AFB n vm rb]at TF;simp only[bk]at TF;have hkn:(Cz σ.bx m)[n]? =some B:=by grind[Qs]
   rw[ARB,hkn]at TF;have TF:Bx.map (Ga m) B=B':=by simp_all
   have hFk:Fk[n]? =some (Fk[n]'(by rw[k1.1,KJ];omega)):=ALR _;refine⟨?_,fun d hd=> ?_⟩
   ·subst TF
    cases B with
    |mem cs=>trivial
    |sl d r rows=>rfl
    |dead=>exact absurd rfl qO
   ·rcases dU (k1.2 n B _ hkn hFk) hd with hs|hs
    all_goals grind[List.mem_flatten,List.mem_of_getElem?]
  have vm:=(ALf.1 hn).1;have rb:some n∉m:=fun hm=>by
   obtain⟨i,hi,him⟩:=AQU hm;grind
  rw[AFB n vm rb];simp only[bk];rw[ARB,Qs rb,hn];rfl
 refine⟨x,E2,da c.outs.Dz u.1 (Xf m N),{ tm:=(σ.Yr m).tm,bx:=aA },rfl,rel,rF rn hslot Dz,ATy,by simp[sM],?_⟩;grind
theorem ACU{f:Nat}{c:QP}(hc:XG P f c)(h:Rel E σ a w){xs:List XV}{vs:List Value}(hxs:Cb (XR E w σ.bx) xs vs)(e:lG c xs σ k=some y):
  Calls P f vs.toArray w fun e w' => ∃x E' xv σ',e= .returned x∧Rel E' σ' a w'∧XR E' w' σ'.bx xv x∧Q6 (dx c xs σ) E σ.bx w E' σ'.bx w'∧σ'.tm.length=σ.tm.length∧k xv σ' =some y:=by
 unfold lG at e;split at e
 case isFalse=>cases e
 rename_i hlen;obtain⟨E',h1,h2,h3,h4⟩:=sI h c.ins;have hold:∀b,b<σ.bx.length→(c.ins.opens σ.bx)[b]? =σ.bx[b]?:=fun b hb=>by grind[BX.opens,List.getElem?_append_left]
 refine(y6 (N0:=σ.bx.length) hc h1 h3 (hxs.imp fun x v hx=>h4 x v hx) hlen (k:=k) (y:=y) e).mono fun e' w' hR=> ?_
 obtain⟨x,E2,xv,σ',q0,q1,q2,q3,q4,q5⟩:=hR;exact⟨x,E2,xv,σ',q0,q1,q2,h2.after hold q3,q4,q5⟩
end
end Go.Fw
end
section
namespace Go.Fw
def fL(P:Program)(Γ:Nat→Option QP):Prop:= ∀f c,Γ f=some c→XG P f c
theorem q_{Γ:Nat→Option QP}{σ:St}{o:Op}(h:pK o=false):KD (fun _=>none) σ o=KD Γ σ o:=by
 cases o with
 |call c=>
  obtain⟨callee,args,qS⟩:=c;cases callee with
  |value f=>simp[pK]at h
  |invoke _ _=>rfl
  |builtin b=>cases b<;>rfl
 |_=>rfl
theorem AWR{Y:Type}{P:Program}{Γ:Nat→Option QP}{o:Oper}{E:Env}{σ:St}{a:Act}{w:World}{k:K Y}{y:Y}{g:Nat}{c:QP}(hsc:XG P g c)(h:Rel E σ a w){f:Operand}{args:Array Operand}{qS:Array TypeId}
  (ho:o.op= .call { callee:= .value f,args:=args,argTypes:=qS }) {ps:List Value} (Zv:a.eval f= .func (.func g) #[] ps.toArray) {xs:List XV} (II:Cb (XR E w σ.bx) xs (args.toList.map a.eval++ps)) (ht:KD Γ σ o.op=dx c xs σ)
  (e:lG c xs σ k=some y) {next:Act→World→Prop} {Q:Exit→Act→World→Prop}
  (hn:∀v w' E' x σ',Rel E' σ' a w'→XR E' w' σ'.bx x v→Q6 (KD Γ σ o.op) E σ.bx w E' σ'.bx w'→σ'.tm.length=σ.tm.length→k x σ' =some y→next (a.put o.dst v) w'):o.wp P a w next Q:=by
 have rf:=ACU hsc h II e;have jQ:(execOp a.eval o).run P w= .ok (.enter g (args.toList.map a.eval++ps).toArray) w:=by
  have e2:(args.map a.eval)++ps.toArray=(args.toList.map a.eval++ps).toArray:=by
   simp_all
  simp only[execOp,ho,resolve,Zv,Deferred.ofValue,Sem.run_bind,Sem.run_pure,Result.andThen_ok,invoke,Array.empty_append,e2,hsc.2.1]
 unfold Oper.wp;rw[jQ];simp only[Oper.upon];refine rf.mono fun e w' hR=> ?_
 grind
section
variable{Y:Type} {P:Program} {T:Jg} (hT:Ef P T) {Γ:Nat→Option QP} (hΓ:fL P Γ) {o:Oper} {E:Env} {σ:St} {a:Act} {w:World} {k:K Y} {y:Y}
include hT hΓ
theorem AAW(h:Rel E σ a w)(e:WM T Γ o σ k=some y){next:Act→World→Prop}{Q:Exit→Act→World→Prop}
  (hn:∀v w' E' x σ',Rel E' σ' a w'→XR E' w' σ'.bx x v→Q6 (KD Γ σ o.op) E σ.bx w E' σ'.bx w'→σ'.tm.length=σ.tm.length→k x σ' =some y→next (a.put o.dst v) w'):o.wp P a w next Q:=by
 by_cases hc:pK o.op=false
 ·obtain⟨v,w',E',x,σ',hr,h1,h2,h3,h4,h5⟩:=AAm hT h e hc
  rw[q_ hc]at h3;unfold Oper.wp;rcases hr with hr|⟨hr,rfl⟩
  ·rw[hr]
   exact hn v w' E' x σ' h1 h2 h3 h4 h5
  ·rw[hr]
   exact hn _ w' E' x σ' h1 h2 h3 h4 h5
 ·
  unfold pK at hc;split at hc
  case h_2=>simp_all
  rename_i f args qS ho;unfold WM at e;rw[ho]at e;dsimp only at e;split at e
  case h_3=>cases e
  ·rename_i g KM hf
   split at e
   case h_2=>cases e
   rename_i c hg;have hv:=h.ev f;rw[hf]at hv;obtain⟨bV,Zv⟩:(∀b∈KM,b<σ.bx.length)∧a.eval f= .func (.func g) #[] (KM.map fun b=>Value.pointer (some ⟨E.Ht b,0,none⟩)).toArray:=hv;have hsc:=hΓ g c hg;have II:Cb (XR E w σ.bx) (args.toList.map σ.ev++KM.map fun b=> .c (.IG b 0)) (args.toList.map a.eval++KM.map fun b=>Value.pointer (some ⟨E.Ht b,0,none⟩)):=by
    refine Cb.append (evs h args.toList) ?_
    clear Zv hf e
    induction KM with
    |nil=>trivial
    |cons b l ih=>exact⟨⟨bV b (by simp),rfl⟩,ih (fun c hc=>bV c (by simp[hc]))⟩
   grind[KD,dx,AWR]
  ·rename_i g rows hf
   split at e
   case h_2=>cases e
   rename_i c hg;have hv:=h.ev f;rw[hf]at hv;obtain⟨ps,Zv,bV⟩:∃ps:List Value,a.eval f= .func (.func g) #[] ps.toArray∧Cb (RA E w) rows ps:=hv;have hsc:=hΓ g c hg;have II:Cb (XR E w σ.bx) (args.toList.map σ.ev++rows.map fun q=> .c (.PB false q.1 q.2 0)) (args.toList.map a.eval++ps):=by
    refine Cb.append (evs h args.toList) ?_
    clear Zv hf e
    induction rows generalizing ps with
    |nil=>
     cases ps with
     |nil=>trivial
     |cons _ _=>exact bV.elim
    |cons q l ih=>
     cases ps with
     |nil=>exact bV.elim
     |cons p ps=>
      obtain⟨⟨bb,o,cs,h1,h2,h3,h4,h5⟩,bV⟩:=bV;exact⟨⟨bb,o,cs,h1,h2,h3,h4,h5⟩,ih ps bV⟩
   grind[KD,dx,AWR]
end
theorem Rel.tmp{E:Env}{σ:St}{a:Act}{w:World}(h:Rel E σ a w){t:Nat}{x:XV}(e:σ.tm[t]? =some x):∃v,a.tmps[t]? =some v∧XR E w σ.bx x v:=by
 obtain⟨v,h1,h2⟩:=h.tm.get e;simp_all
def ANj:Value→Option Bool
 | .bool b=>some b
 |_=>none
theorem a_{ops:Array Oper}{tmps:Array Value}{j t:Nat}(e:(ops[j]?).bind (·.dst)=some t){v:Value}(hv:tmps[t]? =some v):yielded ops tmps j=ANj v:=by
 simp only[yielded,e,AMM,hv];cases v<;>rfl
theorem oT{E:Env}{w:World}{vw:List Bx}:XR E w vw (.Mh []) undef:=⟨#[],rfl,trivial⟩
structure Ok (E0:Env) (w0:World) (N nb:Nat) (E:Env) (σ:St) (a:Act) (w:World):Prop where
 rel:Rel E σ a w
 base:cw E0 w0 E w
 tm:σ.tm.length=N
 qQ:nb≤σ.bx.length
 ids:∀i,i<nb→σ.bx[i]?≠some .dead→E.Ht i=E0.Ht i∧E.Hu i=E0.Hu i
theorem Ok.next{E0 E E':Env}{w0 w w':World}{N nb:Nat}{σ σ':St}{a a':Act}{t:ABI}(h:Ok E0 w0 N nb E σ a w)(hr:Rel E' σ' a' w')(hw:Q6 t E σ.bx w E' σ'.bx w')(hl:σ'.tm.length=σ.tm.length):Ok E0 w0 N nb E' σ' a' w':=
 ⟨hr,h.base.trans hw.base,hl.trans h.tm,ARE h.qQ hw.len,fun i hi hd=>by
  have h1:=hw.ids i (ASh hi h.qQ);have h2:=h.ids i hi (fun hh=>hd (hw.dead i hh));simp_all⟩
theorem Ok.put{E0 E:Env}{w0 w:World}{N nb:Nat}{σ:St}{a:Act}(h:Ok E0 w0 N nb E σ a w)(dst:Option Tmp){x:XV}{v:Value}(hx:XR E w σ.bx x v):Ok E0 w0 N nb E (σ.put dst x) (a.put dst v) w:=by
 have e1:(σ.put dst x).bx=σ.bx:=by cases dst<;>rfl
 have e2:(σ.put dst x).tm.length=σ.tm.length:=by cases dst<;>simp[St.put]
 refine⟨h.rel.put dst hx,h.base,e2.trans h.tm,by rw[e1];exact h.qQ,fun i hi hd=>h.ids i hi (by simp_all)⟩
theorem Ok.same{E0 E:Env}{w0 w:World}{N nb:Nat}{σ σ1:St}{a:Act}(h:Ok E0 w0 N nb E σ a w)(hr:Rel E σ1 a w)(hb:σ1.bx=σ.bx)(hl:σ1.tm.length=σ.tm.length):Ok E0 w0 N nb E σ1 a w:=
 ⟨hr,h.base,hl.trans h.tm,by rw[hb];exact h.qQ,fun i hi hd=>h.ids i hi (by simp_all)⟩
end Go.Fw
end
section
namespace Go.Fw
section
variable{Y:Type}
abbrev k0:K (XV×St):=fun x σ=>some (x,σ)
theorem ACZ{op:BinOp}{κ:IntKind}{a b:Int}(k:AV→Option Y):eP op κ a b k=(eP op κ a b some).bind k:=by
 cases op<;>simp[eP]<;>split<;>rfl
theorem w7{op:BinOp}{κ:IntKind}{a b:Int}(k:AV→Option Y):X0 op κ a b k=(X0 op κ a b some).bind k:=by
 unfold X0;grind
theorem ABJ{op:BinOp}{a b:ABs}(k:AV→Option Y):gw op a b k=(gw op a b some).bind k:=by
 cases op<;>simp[gw]<;>split<;>rfl
theorem oH{T:Jg}{t:Nat}{op:BinOp}{a b:XV}(k:AV→Option Y):vZ T t op a b k=(vZ T t op a b some).bind k:=by
 unfold vZ;grind[w7,ACZ,ABJ]
theorem su{op:UnOp}{a:XV}(k:AV→Option Y):unX op a k=(unX op a some).bind k:=by
 unfold unX;grind
theorem Zw{g:Bool}{a b:XV}(k:AV→Option Y):tM g a b k=(tM g a b some).bind k:=by
 unfold tM;grind
theorem K3{len:Nat}{lo hi:Option XV}(k:Nat→Nat→Option Y):Nv len lo hi k=(Nv len lo hi fun l h=>some (l,h)).bind fun p=>k p.1 p.2:=by
 unfold Nv;grind
theorem xd{T:Jg}{t:Nat}{σ:St}{x:XV}{lo hi:Option XV}(k:K Y):kO T t σ x lo hi k=(kO T t σ x lo hi k0).bind fun p=>k p.1 p.2:=by
 unfold kO;split
 ·split
  ·rw[K3,K3 (Y:=XV×St),AUH];rfl
  ·rfl
 ·split
  ·rw[K3,K3 (Y:=XV×St),AUH];rfl
  ·rfl
 ·split
  ·split
   ·rw[K3,K3 (Y:=XV×St),AUH];rfl
   ·rfl
  ·rfl
 ·rfl
theorem xi{T:Jg}{t:Nat}{σ:St}{x i:XV}(k:K Y):kK σ T t x i k=(kK σ T t x i k0).bind fun p=>k p.1 p.2:=by
 unfold kK;grind
theorem qu{T:Jg}{t:Nat}{σ:St}{x i:XV}(k:K Y):V9 T t σ x i k=(V9 T t σ x i k0).bind fun p=>k p.1 p.2:=by
 unfold V9;grind
theorem ABv{T:Jg}{s d:Nat}{σ:St}{x:XV}(k:K Y):rL T s d σ x k=(rL T s d σ x k0).bind fun p=>k p.1 p.2:=by
 unfold rL;grind
theorem AB8{T:Jg}{t:Nat}{σ:St}{l c:XV}(k:K Y):rR T t σ l c k=(rR T t σ l c k0).bind fun p=>k p.1 p.2:=by
 grind[rR]
theorem l7{T:Jg}{t n:Nat}{ps:List (Nat×XV)}{σ:St}(k:K Y):Qx T t n ps σ k=(Qx T t n ps σ k0).bind fun p=>k p.1 p.2:=by
 grind[Qx,Option.bind_assoc]
theorem vq{T:Jg}{ts:Array TypeId}{σ:St}{a x:XV}(k:K Y):dj T ts σ a x k=(dj T ts σ a x k0).bind fun p=>k p.1 p.2:=by
 unfold dj;split
 all_goals grind
theorem yB{T:Jg}{ts:Array TypeId}{σ:St}{x:XV}(k:K Y):ko T ts σ x k=(ko T ts σ x k0).bind fun p=>k p.1 p.2:=by
 unfold ko;grind
theorem ABc{c:QP}{xs:List XV}{σ:St}(k:K Y):lG c xs σ k=(lG c xs σ k0).bind fun p=>k p.1 p.2:=by
 grind[lG,Option.bind_assoc]
theorem wY{σ:St}{x:XV}(k:K Y):aq σ x k=(aq σ x k0).bind fun p=>k p.1 p.2:=by
 unfold aq;grind
theorem AA4{T:Jg}{Γ:Nat→Option QP}{o:Oper}{σ:St}(k:K Y):WM T Γ o σ k=(WM T Γ o σ k0).bind fun p=>k p.1 p.2:=by
 unfold WM;split
 ·rfl
 ·exact wY k
 ·split
  ·rename_i x _
   cases x<;>rfl
  ·rfl
 ·grind
 ·grind
 ·grind
 ·exact l7 k
 ·grind
 ·grind
 ·grind
 ·rw[oH,oH (Y:=XV×St),AUH];rfl
 ·rw[su,su (Y:=XV×St),AUH];rfl
 ·exact ABv k
 ·grind
 ·exact AB8 k
 ·exact xd k
 ·grind
 ·grind
 ·exact xi k
 ·exact qu k
 ·grind
 ·grind[ABc]
 ·grind
 ·grind[vq]
 ·grind[yB]
 ·split
  ·rw[Zw,Zw (Y:=XV×St),AUH];rfl
  ·rfl
 ·split
  ·rw[Zw,Zw (Y:=XV×St),AUH];rfl
  ·rfl
 ·rfl
theorem jv{I:Type}[Nonempty I]{T:Jg}{Γ:Nat→Option QP}{o:Oper}{σ:St}{k:I→K Y}{y:Y}(h:∀i,WM T Γ o σ (k i)=some y):∃x σ',WM T Γ o σ k0=some (x,σ')∧ ∀i,k i x σ' =some y:=by
 obtain⟨i0⟩:= ‹Nonempty I›;have h0:=h i0;grind[AA4,Option.bind_eq_some_iff]
end
end Go.Fw
end
section
namespace Go.Fw
def WF{α:Type}(P:Program)(s:Sem α):Prop:= ∀w v w1,s.run P w= .ok v w1→ ∀w',s.run P w' = .ok v w'
section
variable{α β:Type} {P:Program}
theorem WF.pure(x:α):WF P (Pure.pure x:Sem α):=fun w v w1 h w' =>by
 simp_all
theorem WF.bind{s:Sem α}{f:α→Sem β}(h:WF P s)(k:∀v,WF P (f v)):WF P (s >>= f):=fun w v w1 e w' =>by
 rw[Sem.run_bind]at e⊢;cases hs:s.run P w with
 |ok u w2=>
  rw[hs]at e;simp only[Result.andThen_ok]at e;rw[h w u w2 hs w'];simp only[Result.andThen_ok];exact k u w2 v w1 e w'
 |halt x w2=>
  simp_all
theorem WF.halt(x:Halt):WF P (.halt x:Sem α):=fun w v w1 e w' =>by simp_all
theorem WF.program:WF P program:=fun w v w1 e w' =>by
 simp_all
theorem WF.typeInfo(t:TypeId):WF P (typeInfo t):=WF.bind WF.program fun p=>by
 split
 ·exact WF.pure _
 ·exact WF.halt _
theorem WF.underlying(t:TypeId):WF P (underlying t):=WF.bind WF.program fun p=>by
 split
 ·exact WF.pure _
 ·exact WF.halt _
theorem WF.sizeOf(t:TypeId):WF P (Go.sizeOf t):=WF.bind (WF.typeInfo t) fun _=>WF.pure _
theorem WF.isAgg(t:TypeId):WF P (isAgg t):=WF.bind (WF.underlying t) fun d=>by
 grind[WF.pure]
theorem WF.zeroValue(t:TypeId):WF P (zeroValue t):=WF.bind (WF.typeInfo t) fun i=>by
 split
 ·exact WF.pure _
 ·exact WF.halt _
theorem WF.asIntOf(v:Value):WF P (asIntOf v):=by
 unfold Go.asIntOf;split
 ·exact WF.pure _
 ·exact WF.halt _
 ·exact WF.halt _
theorem WF.asBool(v:Value):WF P (asBool v):=by
 unfold Go.asBool;split
 ·exact WF.pure _
 ·exact WF.halt _
theorem WF.asAgg(v:Value):WF P (asAgg v):=by
 unfold Go.asAgg;split
 ·exact WF.pure _
 ·exact WF.halt _
theorem WF.sureAddr(v:Value):WF P (Instr.sureAddr v):=by
 unfold Instr.sureAddr;split
 ·exact WF.pure _
 ·exact WF.halt _
theorem WF.wL{s:Sem α}(h:∀w v w1,s.run P w≠ .ok v w1):WF P s:=fun w v w1 e=>absurd e (h w v w1)
theorem Wo{s:Sem α}{f:α→Sem β}(h:∀x w v w1,(f x).run P w≠ .ok v w1):∀w v w1,(s >>= f).run P w≠ .ok v w1:=fun w v w1 e=>by
 rw[Sem.run_bind]at e;cases hs:s.run P w with
 |ok u w2=>simp_all
 |halt x w2=>simp_all
theorem fX(x:Halt):∀w v w1,(.halt x:Sem α).run P w≠ .ok v w1:=fun w v w1 e=>by simp_all
theorem lh(e:RuntimeError):∀w v w1,(runtimePanic e:Sem α).run P w≠ .ok v w1:=by
 unfold runtimePanic;refine Wo fun p=> ?_
 dsimp only;split<;>first
  |exact fX _
  |exact Wo fun _=>Wo fun _=>fX _
  |exact Wo fun _=>fX _
theorem WF.bounds(k:IntKind)(x y:Int)(c:BoundsCode):WF P (boundsPanic k x y c:Sem α):=WF.wL (by
 grind[boundsPanic,Wo,lh])
theorem WF.part(t:TypeId)(cs:Array Value)(o:Nat):WF P (part t cs o):=WF.bind (WF.isAgg t) fun b=>by
 split
 ·grind[WF.bind,WF.sizeOf,WF.pure]
 ·split
  ·exact WF.pure _
  ·exact WF.halt _
theorem WF.field(t:TypeId)(x:Value)(f:Nat):WF P (Instr.field t x f):=WF.bind (WF.underlying t) fun d=>by
 split
 ·split
  ·grind[WF.bind,WF.asAgg,WF.part]
  ·exact WF.halt _
 ·exact WF.halt _
theorem WF.indexAt(t:TypeId)(x i:Value):WF P (Instr.indexAt t x i):=WF.bind (WF.asIntOf i) fun q=>by
 obtain⟨k,i⟩:=q;dsimp only;refine WF.bind (WF.underlying t) fun d=> ?_
 have rest:∀q:Option Addr×Nat×TypeId,WF P (do
   let d←Go.underlying t
   match q.1 with
   |some a=>
    if 0≤i∧i<(q.2.1:Int)then do
     let s←Go.sizeOf q.2.2
     Pure.pure (Value.pointer (some (a.add (i.toNat*s))))
    else if(decide (q.2.1≤1)&&(match d with| .array .. =>true|_=>false))=true then unsupported (.noEntry "op/indexAddr.an index out of range at an array of length 0 or 1 (ledger 616)")
    else boundsPanic k i q.2.1 .index
   |none=>boundsPanic k i 0 .index:Sem Value):=fun q=>by
  refine WF.bind (WF.underlying t) fun d=> ?_
  split
  ·split
   ·grind[WF.bind,WF.sizeOf,WF.pure]
   ·repeat' split
    all_goals first|exact WF.halt _|exact WF.bounds _ _ _ _
  grind[WF.bounds]
 split
 ·exact WF.bind (WF.sureAddr _) fun _=>WF.bind (WF.pure _) fun q=>rest q
 ·exact WF.bind (WF.pure _) fun q=>rest q
 ·exact WF.bind (WF.halt _) fun q=>rest q
theorem WF.index(t:TypeId)(x i:Value):WF P (Instr.index t x i):=WF.bind (WF.asIntOf i) fun q=>by
 obtain⟨k,i⟩:=q;dsimp only;refine WF.bind (WF.underlying t) fun d=> ?_
 split
 ·grind[WF.bind,WF.sizeOf,WF.part,WF.bounds]
 ·grind[WF.pure,WF.bounds]
 ·exact WF.halt _
theorem WF.extract(x:Value)(i:Nat):WF P (Instr.extract x i):=by
 unfold Instr.extract;split
 ·split
  ·exact WF.pure _
  ·exact WF.halt _
 ·exact WF.halt _
theorem WF.sliceBound(x:Value)(y:Nat)(c:BoundsCode):WF P (Instr.sliceBound x y c):=WF.bind (WF.asIntOf x) fun q=>by
 grind[WF.pure,WF.bounds]
theorem WF.sliceBounds(b:Bool)(len cap:Nat)(l h:Option Value):WF P (Instr.sliceBounds b len cap l h none):=by
 cases h with
 |none=>
  cases l with
  |none=>exact WF.bind (WF.pure _) fun _=>WF.bind (WF.pure _) fun _=>WF.bind (WF.pure _) fun _=>WF.pure _
  |some l=>exact WF.bind (WF.pure _) fun _=>WF.bind (WF.pure _) fun _=>WF.bind (WF.sliceBound _ _ _) fun _=>WF.pure _
 |some h=>
  cases l with
  |none=>exact WF.bind (WF.pure _) fun _=>WF.bind (WF.sliceBound _ _ _) fun _=>WF.bind (WF.pure _) fun _=>WF.pure _
  |some l=>exact WF.bind (WF.pure _) fun _=>WF.bind (WF.sliceBound _ _ _) fun _=>WF.bind (WF.sliceBound _ _ _) fun _=>WF.pure _
theorem WF.asAddr(v:Value):WF P (asAddr v):=by
 unfold Go.asAddr;split
 ·exact WF.pure _
 ·exact WF.wL (lh _)
 ·exact WF.halt _
theorem WF.slice(t:TypeId)(x:Value)(l h:Option Value):WF P (Instr.slice t x l h none):=WF.bind (WF.underlying t) fun d=>by
 split
 ·grind[WF.bind,WF.sliceBounds,WF.pure]
 ·grind[WF.bind,WF.sliceBounds,WF.sizeOf,WF.pure]
 ·refine WF.bind (WF.asAddr _) fun _=>WF.bind (WF.underlying _) fun d=> ?_
  split
  ·grind[WF.bind,WF.sliceBounds,WF.sizeOf,WF.pure]
  ·exact WF.halt _
 ·exact WF.halt _
theorem WF.sliceAt(t:TypeId)(x:Value)(l h:Option Value):WF P (Instr.sliceAt t x l h none):=WF.bind (WF.underlying t) fun d=>by
 grind[WF.bind,WF.sureAddr,WF.sliceBounds,WF.sizeOf,WF.pure,WF.slice]
theorem WF.rO{f:α→Sem β}(h:∀x,WF P (f x)):∀l:List α,WF P (l.mapM f)
 |[]=>WF.pure _
 |x::l=>by
  rw[AXE];exact WF.bind (h x) fun _=>WF.bind (WF.rO h l) fun _=>WF.pure _
theorem WF.mapM{f:α→Sem β}(h:∀x,WF P (f x))(a:Array α):WF P (a.mapM f):=by
 rw[Array.mapM_eq_mapM_toList,←bind_pure_comp];grind[WF.bind,WF.rO,WF.pure]
theorem WF.build(t:TypeId)(ps:Array (Nat×Value)):WF P (Instr.build t ps):=WF.bind (WF.zeroValue t) fun z=>by
 refine WF.bind (WF.underlying t) fun d=> ?_
 split
 ·refine WF.bind (WF.mapM (fun f=>WF.bind (WF.sizeOf _) fun _=>WF.pure _) _) fun _=> ?_
  split
  ·exact WF.pure _
  ·exact WF.halt _
 ·refine WF.bind (WF.sizeOf _) fun _=> ?_
  split
  ·exact WF.pure _
  ·exact WF.halt _
 ·exact WF.halt _
end
end Go.Fw
end
section
namespace Go.Fw
def Kof(hint:ABI)(E:Env)(w:World)(bx:List Bx)(c:Nat):Prop:=E.T c∨ ∃n B,n∈hint∧bx[n]? =some B∧xH E w n B c
def o5(K:Nat→Prop)(w w':World):Prop:= ∀c,K c→w'.heap[c]? =w.heap[c]?
theorem zp{w:World}{B:Nat→Prop}:∀{p:List V_} {r:Ty} {h:Value} {rows:List r.D} {q:Ty} {ys:List q.D} {bb o len cap i:Nat},Rd w B (.sl r) [h] rows→DE r rows p→G5 r rows p=some ⟨q,ys⟩→
  Ir w h p=some (.slice (some ⟨bb,o,none⟩) len cap)→i<ys.length→RB w (.sl r) [h] rows bb
 |[],r,h,rows,q,ys,bb,o,len,cap,i,hr,hp,hg,hh,hi=>by
  rw[DB]at hh;cases hh;simp only[G5,ALW,AMn]at hg;obtain⟨rfl,hg⟩:=hg;obtain rfl:=AQ3 hg;simp only[RB];grind
 |s::p,r,h,rows,q,ys,bb,o,len,cap,i,hr,hp,hg,hh,hi=>by
  simp only[DE]at hp;obtain⟨hsi,O_,hp⟩:=hp;simp only[Rd]at hr;obtain⟨a,cap',e1,_,hr⟩:=hr;obtain rfl:=(List.cons.inj e1).1;rcases hr with hr|⟨b',o',rfl,hb,hr⟩
  ·omega
  obtain⟨cs,hl,hc,hrow⟩:=hr s.i _ (Q3 hsi);simp only[G5]at hg;split at hg
  case h_2=>cases hg
  rename_i q' x gV;rw[gV]at hp;dsimp only at hp;obtain⟨v,hv,hrv⟩:=dv hrow gV;have hcv:=hc _ _ hv;rw[←O_]at hcv;simp only[Ir,hcv]at hh;have:=zp hrv hp hg hh hi;simp only[RB];refine⟨b',o',_,cap',rfl,by omega,.inr ⟨s.i,_,cs,Q3 hsi,hl,hc,?_⟩⟩;clear hc hcv e1 hr;exact RB_cell hrow gV hv this
where
 RB_cell {w:World} {B:Nat→Prop} {c:Nat}:∀{r:Ty} {cs:List Value} {x:r.D} {j:Nat} {t:Ty} {y:t.D} {v:Value},Rd w B r cs x→BL r j x=some ⟨t,y⟩→cs[j]? =some v→RB w t [v] y c→RB w r cs x c
 | .cons c r,cs,x,0,t,y,v,h,e,hv,k=>by
  simp only[Rd]at h;obtain⟨u,l,rfl,h1,h2⟩:=h;simp only[BL,ALW,AMn]at e;obtain⟨rfl,e⟩:=e;obtain rfl:=AQ3 e;simp at hv;subst hv;simp only[RB];grind
 | .cons c r,cs,x,j+1,t,y,v,h,e,hv,k=>by
  simp only[Rd]at h;obtain⟨u,l,rfl,h1,h2⟩:=h;simp only[BL]at e;have:=RB_cell h2 e (by simp_all) k;simp only[RB];grind
 | .int k,cs,x,0,t,y,v,h,e,hv,k' =>by
  simp only[BL,ALW,AMn]at e;obtain⟨rfl,_⟩:=e;simp[RB]at k'
 | .bool,cs,x,0,t,y,v,h,e,hv,k' =>by
  simp only[BL,ALW,AMn]at e;obtain⟨rfl,_⟩:=e;simp[RB]at k'
 | .str,cs,x,0,t,y,v,h,e,hv,k' =>by
  simp only[BL,ALW,AMn]at e;obtain⟨rfl,_⟩:=e;simp[RB]at k'
 | .sl r,cs,x,0,t,y,v,h,e,hv,k=>by
  simp only[BL,ALW,AMn]at e;obtain⟨rfl,e⟩:=e;obtain rfl:=AQ3 e;have hl:=kU h;simp only[Ty.n]at hl;obtain⟨u,rfl⟩:=List.length_eq_one_iff.1 hl;simp_all
 | .unit,_,_,_,_,_,_,_,e,_,_=>by simp[BL]at e
 | .int _,_,_,_+1,_,_,_,_,e,_,_=>by simp[BL]at e
 | .bool,_,_,_+1,_,_,_,_,e,_,_=>by simp[BL]at e
 | .str,_,_,_+1,_,_,_,_,e,_,_=>by simp[BL]at e
 | .sl _,_,_,_+1,_,_,_,_,e,_,_=>by simp[BL]at e
section
variable{P:Program} {T:Jg} (hT:Ef P T) {E:Env} {w:World}
include hT
theorem sA{σ:St}{Fs:List ABI}(hB:NC E w σ.bx σ.bx Fs)(st:∀c,E.S c→E.T c){t:Nat}{x:AV}{z:XV}(e:lW T t σ (.c x)=some z){v:Value}(hx:VR E w σ.bx x v):
  ∃bb oo u y,v= .pointer (some ⟨bb,oo,none⟩)∧JB σ.bx x 0=some y∧XR E w σ.bx z u∧ ∀w',w'.heap[bb]? =w.heap[bb]?→(Instr.loadAt t v).run P w' = .ok u w':=by
 unfold lW at e;split at e
 case h_2=>cases e
 rename_i x' ti y_ T4;cases y_;split at e
 case isTrue=>cases e
 rename_i O_;have ik:=fun w=>Ef.isAgg hT T4 w
 split at e
 ·rename_i ha
  simp only[ALe]at e;obtain⟨l,hl,rfl⟩:=e;obtain⟨h1,h2⟩:=bF hl;have h0:0<l.length:=by omega
  obtain⟨b,o,u,hv,_,_⟩:=K5 hB st (h2 0 _ (ALR h0)) hx;obtain⟨cs,c1,c2,c3⟩:=cW hB st hx hv (l:=l) (j:=0) (fun i y hy=>by simp_all);subst hv;have iX:=(hT t ti T4).und;cases hd:ti.desc with
  |st fs=>
   rw[hd]at iX;obtain⟨fields,hu,_⟩:=iX;refine⟨b,o,.agg cs.toArray,_,rfl,by simpa using h2 0 _ (ALR h0),⟨cs.toArray,rfl,by omega⟩,fun w' hw=>run_loadAt_mid w' b o t cs _ (by have:=c2.of_block hw;grind[Bb,World.rangeAt]) hu rfl ?_⟩;grind[Ef.size]
  |_=>grind[TD.agg]
 ·rename_i ha
  simp only[AO4]at ha;simp only[ALe]at e;obtain⟨y,hy,rfl⟩:=e;obtain⟨b,o,u,hv,hc,hr⟩:=K5 hB st hy hx;subst hv;refine⟨b,o,u,y,rfl,hy,hr,fun w' hw=> ?_⟩;have AL7:=ik w';rw[ha]at AL7;simp only[ATU]at hc;have ZL:w'.cell? ⟨b,o,none⟩=some u:=by grind[World.cell?_of_block]
  simp[Instr.loadAt,Instr.sureAddr,loadVar,AL7,ZL]
end
theorem vN{E E':Env}{w w':World}{vw vw':List Bx}{t:Ty}{x:t.D}{v:Value}(h:VR E w vw (.v t x) v):VR E' w' vw' (.v t x) v:=by
 obtain⟨h1,h2⟩:=h;refine⟨h1,?_⟩;cases t<;>simp_all[Ty.scalar,Rd]
theorem jA{E E':Env}{w w':World}{vw vw':List Bx}{t:Ty}{x:t.D}{v u:Value}(h:VR E w vw (.v t x) v)(k:VR E' w' vw' (.v t x) u):v=u:=by
 obtain⟨h1,h2⟩:=h;obtain⟨_,k2⟩:=k;cases t<;>simp_all[Ty.scalar,Rd]
def j6(x:XV):Prop:=(∃t z,x= .c (.v t z))∨(∃l,x= .agg l∧ ∀c∈l,∃t z,c= .v t z)
theorem Lx{E E':Env}{w w':World}{vw vw':List Bx}{x:XV}{v:Value}(hp:j6 x)(h:XR E w vw x v):XR E' w' vw' x v:=by
 rcases hp with⟨t,z,rfl⟩|⟨l,rfl,hl⟩
 ·exact vN (E:=E) (w:=w) (vw:=vw) (E':=E') (w':=w') (vw':=vw') h
 ·obtain⟨vs,rfl,VI⟩:=h
  refine⟨vs,rfl,?_⟩
  generalize vs.toList=m at VI
  induction l generalizing m with
  |nil=>cases m with
   |nil=>trivial
   |cons _ _=>exact VI.elim
  |cons c l ih=>cases m with
   |nil=>exact VI.elim
   |cons u m=>
    obtain⟨t,z,rfl⟩:=hl c (by simp);exact⟨vN VI.1,ih (fun c hc=>hl c (by simp[hc])) m VI.2⟩
theorem tp{d:TD}{x z:AV}{p:Bool}(e:nT d x z=some p):(∃t y,x= .v t y)∧ ∃t y,z= .v t y:=by
 unfold nT at e;grind
theorem Yn{T:Jg}:∀{i:Nat} {fs:List ACf} {l m:List AV} {r:Bool},K0 T i fs l m=some r→(∀c∈l,∃t z,c= .v t z)∧ ∀c∈m,∃t z,c= .v t z
 |i,[],[],[],r,e=>by simp
 |i,(o,t)::fs,x::l,z::m,r,e=>by
  simp only[K0]at e;split at e
  case isFalse=>cases e
  split at e
  case h_2=>cases e
  split at e
  case h_2=>cases e
  rename_i p hp;simp only[ALe]at e;obtain⟨r',e1,_⟩:=e;obtain⟨a1,a2⟩:=tp hp;obtain⟨b1,b2⟩:=Yn e1;simp_all
 |_,[],[],_::_,_,e=>by simp[K0]at e
 |_,[],_::_,_,_,e=>by simp[K0]at e
 |_,_::_,[],_,_,e=>by simp[K0]at e
 |_,_::_,_::_,[],_,e=>by simp[K0]at e
theorem AI1{op:BinOp}{κ:IntKind}{a b:Int}{r:AV}(e:eP op κ a b some=some r):∃t x,r= .v t x:=by
 cases op<;>simp only[eP,ALW]at e<;>first
  |exact⟨_,_,e.symm⟩
  |(grind)
  |cases e
theorem ABY{op:BinOp}{κ:IntKind}{a b:Int}{r:AV}(e:X0 op κ a b some=some r):∃t x,r= .v t x:=by
 unfold X0 at e;grind
theorem AHI{op:BinOp}{a b:ABs}{r:AV}(e:gw op a b some=some r):∃t x,r= .v t x:=by
 cases op<;>simp only[gw,ALW]at e<;>first
  |exact⟨_,_,e.symm⟩
  |(
   split at e
   all_goals grind)
  |cases e
theorem AMh{T:Jg}{t:Nat}{op:BinOp}{a b:XV}{r:AV}(e:vZ T t op a b some=some r):(∃t x,r= .v t x)∧j6 a∧j6 b:=by
 unfold vZ at e;split at e
 ·refine⟨?_,.inl ⟨_,_,rfl⟩,.inl ⟨_,_,rfl⟩⟩
  grind[ABY,AI1]
 ·exact⟨AHI e,.inl ⟨_,_,rfl⟩,.inl ⟨_,_,rfl⟩⟩
 ·refine⟨?_,.inl ⟨_,_,rfl⟩,.inl ⟨_,_,rfl⟩⟩
  grind
 ·split at e
  ·rename_i hq
   rw[ALt]at hq;obtain⟨fs,_,hq⟩:=hq;obtain⟨q1,q2⟩:=Yn hq;cases e;exact⟨⟨_,_,rfl⟩,.inr ⟨_,rfl,q1⟩,.inr ⟨_,rfl,q2⟩⟩
  ·rename_i hq
   rw[ALt]at hq;obtain⟨fs,_,hq⟩:=hq;obtain⟨q1,q2⟩:=Yn hq;cases e;exact⟨⟨_,_,rfl⟩,.inr ⟨_,rfl,q1⟩,.inr ⟨_,rfl,q2⟩⟩
  simp_all
 simp_all
theorem AEs{g:Bool}{a b:XV}{r:AV}(e:tM g a b some=some r):(∃t x,r= .v t x)∧j6 a∧j6 b:=by
 unfold tM at e;split at e
 ·refine⟨?_,.inl ⟨_,_,rfl⟩,.inl ⟨_,_,rfl⟩⟩
  grind
 simp_all
theorem ATf{op:UnOp}{a:XV}{r:AV}(e:unX op a some=some r):(∃t x,r= .v t x)∧j6 a:=by
 unfold unX at e;split at e
 ·cases e;exact⟨⟨_,_,rfl⟩,.inl ⟨_,_,rfl⟩⟩
 ·cases e;exact⟨⟨_,_,rfl⟩,.inl ⟨_,_,rfl⟩⟩
 simp_all
section
variable{Y:Type} {P:Program} {T:Jg} (hT:Ef P T) {Γ:Nat→Option QP} {o:Oper} {E:Env} {σ:St} {a:Act} {w:World} {k:K Y} {y:Y}
include hT
theorem ACE(h:Rel E σ a w){t:TypeId}(ps:Array (Nat×Operand)){s b:Nat}{fs:List ACf}{rw:Option Ty}(T4:T.get t=some ⟨s,b,.st fs,rw⟩){r:Ty}(hr:T.gx t=some r)
  {cs:List AV} (hb:fT T fs (bE r) (ps.toList.map fun q=>(q.1,σ.ev q.2))=some cs):
  ∃KX,(∀w',(Instr.build t (ps.map fun(i,x)=>(i,a.eval x))).run P w' = .ok (.agg KX) w')∧gi E w σ.bx cs KX.toList:=by
 obtain⟨i,z,h1,h2,h3,_⟩:=row_zero hT hr;obtain⟨fields,hu,hfs,O_⟩:=AJf hT T4;obtain⟨KX,f1,f2⟩:=bA hT (nq h ps) (arr:=z.cells) (by grind[Xy]) hb;refine⟨KX,fun w' => ?_,f2⟩;have hb:P.built t (ps.map fun(i,x)=>(i,a.eval x)).toList=some KX:=by
  unfold Program.built;simp only[h1,hu,h2];have hm:fields.toList.mapM (fun f=>(P.info? f.type).map fun i=>(f.offset,i.size))=some (fields.toList.map fun f=>(f.offset,((P.info? f.type).map (·.size)).getD 0)):=by
   grind[pU]
  simp only[hm];rw[←f1];congr 1;funext n;subst hfs;simp only[List.getElem?_toArray,ARB];cases hn:fields.toList[n]? with
  |none=>simp
  |some f=>
   obtain⟨i',De,_⟩:=O_ f (ANO hn);simp[De]
 grind[run_build]
theorem yp{hint:ABI}(h:Rel E σ a w)(hq:i7 hint σ o.op=true)(e:WM T Γ o σ k=some y):
  ∃v x,XR E w σ.bx x v∧k x σ=some y∧ ∀w',o5 (Kof hint E w σ.bx) w w'→(execOp a.eval o).run P w' = .ok (.value v) w':=by
 obtain⟨Fs,hB,hS⟩:=h.bx;have st:=hS.st;have wf:∀{s:Sem Value} {v:Value},WF P s→s.run P w= .ok v w→ ∀w',s.run P w' = .ok v w':=fun h1 h2 w' =>h1 w _ w h2 w'
 unfold WM at e;split at e
 ·rename_i x ho
  exact⟨a.eval x,_,h.ev x,e,fun w' _=>by grind[execOp,Sem.run_pure]⟩
 ·rename_i x ho
  unfold aq at e;split at e
  ·grind[i7]
  ·exact⟨a.eval x,_,h.ev x,e,fun w' _=>by grind[execOp,Sem.run_pure]⟩
 ·rename_i c xa xb ho
  split at e
  case h_2=>cases e
  rename_i p hp;have hc:=h.ev c;rw[hp]at hc;have ZL:=RJ (E:=E) (w:=w) (vw:=σ.bx) hc;refine⟨if p then a.eval xa else a.eval xb,if p then σ.ev xa else σ.ev xb,by cases p<;>simp[h.ev],by grind[AC4],fun w' _=>by simp[execOp,ho,ZL,asBool]⟩
 ·rename_i t ho;rw[ho]at hq;cases hq
 ·rename_i t x ho;rw[ho]at hq;cases hq
 ·rename_i t ps ho
  split at e
  case h_2=>cases e
  rename_i s b fs rw r T4 hr;split at e
  case h_2=>cases e
  rename_i cs vB;obtain⟨KX,h1,h2⟩:=ACE hT h ps T4 hr vB;exact⟨.agg KX,.agg cs,⟨KX,rfl,h2⟩,e,fun w' _=>by grind[execOp,Sem.run_bind,Result.andThen_ok,Sem.run_pure]⟩
 ·rename_i t n ps ho;rw[ho]at hq;cases hq
 ·rename_i t x ho
  rw[ho]at hq;split at e
  case h_2=>cases e
  rename_i z hz;have hv:=h.ev x;simp only[i7]at hq
  generalize hX:σ.ev x=X at hq hv hz
  cases X with
  |agg l=>cases hq
  |Mh l=>cases hq
  |c ad=>
   obtain⟨bb,oo,u,cell,hp,hc,h2,h3⟩:=sA hT hB st hz hv;refine⟨u,z,h2,e,fun w' qY=> ?_⟩;have hbb:w'.heap[bb]? =w.heap[bb]?:=by
    refine qY bb ?_
    have Xi:VR E w σ.bx ad (a.eval x):=hv;cases ad with
    |IG b j=>
     simp only[gF,AUt]at hq;simp only[JB]at hc;split at hc
     ·rename_i cs hb
      refine .inr ⟨b,_,hq,hb,?_⟩;have:=Xi.2;rw[hp]at this;simp only[Value.pointer.injEq,ALW,Addr.mk.injEq]at this;exact this.1
     simp_all
    |JX b p i sz j=>
     simp only[gF,AUt]at hq;simp only[JB]at hc;split at hc
     ·rename_i d q rows hb
      refine .inr ⟨b,_,hq,hb,?_⟩;simp only[VR,hb]at Xi;obtain⟨_,hpp,q1,ys,b2,o2,len,cap,g1,g2,g3,g4⟩:=Xi;rw[hp]at g4;simp only[Value.pointer.injEq,ALW,Addr.mk.injEq]at g4;obtain⟨rfl,_⟩:=g4;obtain⟨F,⟨_,ho2⟩,_⟩:=hB.get hb;exact zp (XJ ho2) hpp g1 g3 g2
     simp_all
    |PB s r z j=>
     obtain⟨b2,o2,cs,g1,g2,_⟩:=Xi;rw[hp]at g1;simp only[Value.pointer.injEq,ALW,Addr.mk.injEq]at g1;obtain⟨rfl,_⟩:=g1
     left
     grind
    |_=>cases hq
   grind[execOp,Sem.run_bind,Result.andThen_ok,Sem.run_pure]
 ·rename_i t xa xx ho;rw[ho]at hq;cases hq
 ·rename_i x ho
  have hx:=h.ev x;split at e
  ·rename_i b j hp
   rw[hp]at hx;have y_:b<σ.bx.length∧a.eval x= .pointer (some ⟨E.Ht b,j,none⟩):=hx;grind[execOp,Sem.run_pure]
  ·rename_i b p i sz j hp
   rw[hp]at hx;have hpt:bR (a.eval x)=true:=hx.1;grind[bR,execOp,Sem.run_pure]
  ·rename_i s r z j hp
   rw[hp]at hx;obtain⟨bb,oo,cs,hv,hrest⟩:=hx;exact⟨a.eval x,.c (.PB s r z j),⟨bb,oo,cs,hv,hrest⟩,e,fun w' _=>by grind[execOp,Sem.run_pure]⟩
  ·rename_i f KM hp
   rw[hp]at hx;have y_:(∀b∈KM,b<σ.bx.length)∧a.eval x= .func (.func f) #[] (KM.map fun b=>Value.pointer (some ⟨E.Ht b,0,none⟩)).toArray:=hx;grind[execOp,Sem.run_pure]
  simp_all
 ·rename_i op t x z s ho
  rw[oH,ALt]at e;obtain⟨r,e1,e⟩:=e;obtain⟨⟨t',x',rfl⟩,p1,p2⟩:=AMh e1;obtain⟨r0,val,h1,h2,h3⟩:=fx hT e1 (h.ev x) (h.ev z) x z;cases h1;refine⟨val,.c (.v t' x'),h3,e,fun w' _=> ?_⟩;obtain⟨r1,val',g1,g2,g3⟩:=fx hT e1 (Lx (E':=E) (w':=w') (vw':=σ.bx) p1 (h.ev x)) (Lx p2 (h.ev z)) x z;cases g1;have:=jA h3 g3;subst this;simp only[execOp,ho,Sem.run_bind];simp_all
 ·rename_i op t x ho
  rw[su,ALt]at e;obtain⟨r,e1,e⟩:=e;obtain⟨⟨t',x',rfl⟩,p1⟩:=ATf e1;obtain⟨r0,val,h1,h2,h3⟩:=js (P:=P) e1 (h.ev x);cases h1;refine⟨val,.c (.v t' x'),h3,e,fun w' _=> ?_⟩;obtain⟨r1,val',g1,g2,g3⟩:=js (P:=P) e1 (Lx (E':=E) (w':=w') (vw':=σ.bx) p1 (h.ev x));grind[jA,execOp,Sem.run_bind,Result.andThen_ok,Sem.run_pure]
 ·rename_i s d x ho;rw[ho]at hq;cases hq
 ·rename_i f first KM ho;rw[ho]at hq;cases hq
 ·rename_i t l c ho;rw[ho]at hq;cases hq
 ·rename_i t x lo hi ho
  obtain⟨z,val,h1,h2,h3⟩:=ir hT hB st e (h.ev x) (zN h lo) (zN h hi);exact⟨val,z,h3,h1,fun w' _=>by simp only[execOp,ho,Option.map_none,Sem.run_bind,wf (WF.sliceAt _ _ _ _) h2 w',Result.andThen_ok,Sem.run_pure]⟩
 ·rename_i t x f ho
  split at e
  case h_2=>cases e
  rename_i z hz;obtain⟨u,h1,h2⟩:=iN hT hz (h.ev x);refine⟨u,z,h2,e,fun w' _=> ?_⟩;have hw:(Instr.fieldAt t (a.eval x) f).run P w' = .ok u w':=by
   have hx:=h.ev x;unfold tf at hz;split at hz
   case h_2=>cases hz
   rename_i s b fs _ T4;split at hz
   case h_2=>cases hz
   rename_i o' u' hf;have key:∀ad,a.eval x= .pointer (some ad)→(Instr.fieldAt t (a.eval x) f).run P w' = .ok u w':=by
    intro ad had;rw[had]at h1⊢;have r1:=UC hT (w:=w) T4 hf (a:=ad);grind[UC]
   split at hz
   ·rename_i b' j hp
    rw[hp]at hx;exact key _ hx.2
   ·rename_i b' p i sz j hp
    rw[hp]at hx;have hpt:bR (a.eval x)=true:=hx.1;unfold bR at hpt;grind
   ·rename_i s r y' j hp
    rw[hp]at hx;obtain⟨bb,oo,cs,hv,_⟩:=hx;simp_all
   simp_all
  grind[execOp,Sem.run_bind,Result.andThen_ok,Sem.run_pure]
 ·rename_i t x f ho
  split at e
  case h_2=>cases e
  rename_i z hz;obtain⟨u,h1,h2⟩:=lA hT hz (h.ev x);exact⟨u,z,h2,e,fun w' _=>by simp only[execOp,ho,Sem.run_bind,wf (WF.field _ _ _) h1 w',Result.andThen_ok,Sem.run_pure]⟩
 ·rename_i t x i ho
  obtain⟨z,val,h1,h2,h3⟩:=iO hT hB st e (h.ev x) (h.ev i);exact⟨val,z,h3,h1,fun w' _=>by simp only[execOp,ho,Sem.run_bind,wf (WF.indexAt _ _ _) h2 w',Result.andThen_ok,Sem.run_pure]⟩
 ·rename_i t x i ho
  obtain⟨z,val,h1,h2,h3⟩:=bo hT e (h.ev x) (h.ev i);exact⟨val,z,h3,h1,fun w' _=>by simp only[execOp,ho,Sem.run_bind,wf (WF.index _ _ _) h2 w',Result.andThen_ok,Sem.run_pure]⟩
 ·rename_i x i ho
  split at e
  case h_2=>cases e
  rename_i z hz;obtain⟨u,h1,h2⟩:=dQ (P:=P) hz (h.ev x);exact⟨u,z,h2,e,fun w' _=>by simp only[execOp,ho,Sem.run_bind,wf (WF.extract _ _) h1 w',Result.andThen_ok,Sem.run_pure]⟩
 ·rename_i f args qS ho;rw[ho]at hq;cases hq
 ·rename_i args qS ho
  split at e
  ·rename_i s t II hts
   obtain⟨x,rfl,hx⟩:=W7 II;have hv:=h.ev x;rw[hx]at hv;have Xi:=XL (E:=E) (w:=w) (vw:=σ.bx) hv;split at e
   case isFalse=>cases e
   rename_i hs;have hu:=Wg hT hs;refine⟨.int .i64 (s.length:Int),.c (.v (.int .i64) (s.length:Int)),VR.int (E:=E) (vw:=σ.bx) _ _,e,fun w' _=> ?_⟩;have O_:(⟨s.toArray⟩:ByteArray).size=s.length:=by rfl
   simp[execOp,ho,resolve,invoke,builtin,Builtin.len_,hts,Xi,BZ hu,goInt,O_]
  ·rename_i z t _ II hts
   obtain⟨x,rfl,hx⟩:=W7 II;have hv:=h.ev x;rw[hx]at hv;split at e
   case isFalse=>cases e
   rename_i hs;split at e
   case h_2=>cases e
   rename_i n hn;obtain⟨el,hu⟩:=k_ hT hs;obtain⟨ad,cap,Xi⟩:=lJ hB st hn hv;refine⟨.int .i64 (n:Int),.c (.v (.int .i64) (n:Int)),VR.int (E:=E) (vw:=σ.bx) _ _,e,fun w' _=> ?_⟩;simp[execOp,ho,resolve,invoke,builtin,Builtin.len_,hts,Xi,BZ hu,goInt]
  simp_all
 ·rename_i args qS ho;rw[ho]at hq;cases hq
 ·rename_i args qS ho;rw[ho]at hq;cases hq
 ·rename_i args qS ho
  split at e
  case h_2=>cases e
  rename_i x1 x2 II;obtain⟨o1,o2,rfl,hx1,hx2⟩:=Wh II;have bV:=h.ev o1;have Zv:=h.ev o2;rw[hx1]at bV;rw[hx2]at Zv;rw[Zw,ALt]at e;obtain⟨r,e1,e⟩:=e;obtain⟨⟨t',x',rfl⟩,p1,p2⟩:=AEs e1;obtain⟨r0,val,h1,h2,h3⟩:=TU (P:=P) (big:=true) e1 bV Zv qS #[] o.type;cases h1;refine⟨val,.c (.v t' x'),h3,e,fun w' _=> ?_⟩;obtain⟨r1,val',g1,g2,g3⟩:=TU (P:=P) (big:=true) e1 (Lx (E':=E) (w':=w') (vw':=σ.bx) p1 bV) (Lx p2 Zv) qS #[] o.type;cases g1;have:=jA h3 g3;subst this;simp only[ASe]at g2;simp[execOp,ho,resolve,invoke,builtin,g2]
 ·rename_i args qS ho
  split at e
  case h_2=>cases e
  rename_i x1 x2 II;obtain⟨o1,o2,rfl,hx1,hx2⟩:=Wh II;have bV:=h.ev o1;have Zv:=h.ev o2;rw[hx1]at bV;rw[hx2]at Zv;rw[Zw,ALt]at e;obtain⟨r,e1,e⟩:=e;obtain⟨⟨t',x',rfl⟩,p1,p2⟩:=AEs e1;obtain⟨r0,val,h1,h2,h3⟩:=TU (P:=P) (big:=false) e1 bV Zv qS #[] o.type;cases h1;refine⟨val,.c (.v t' x'),h3,e,fun w' _=> ?_⟩;obtain⟨r1,val',g1,g2,g3⟩:=TU (P:=P) (big:=false) e1 (Lx (E':=E) (w':=w') (vw':=σ.bx) p1 bV) (Lx p2 Zv) qS #[] o.type;cases g1;have:=jA h3 g3;subst this;simp only[ALr,AOV]at g2;simp[execOp,ho,resolve,invoke,builtin,g2]
 simp_all
end
end Go.Fw
end
section
namespace Go.Fw
section
variable{P:Program} {md:Region.Mode} {ops:Array Oper} {Q:Exit→Act→World→Prop}
theorem o5.refl(K:Nat→Prop)(w:World):o5 K w w:=fun _ _=>rfl
def vP(P:Program)(md:Region.Mode)(ops:Array Oper)(Q:Exit→Act→World→Prop):Nat→Array Bool→(Nat→Prop)→Act→World→Prop
 |0,listed,_,a,w=>Region.ready md ops listed=[]∧Q .normal a w
 |fuel+1,listed,K,a,w=>(Region.ready md ops listed=[]→Q .normal a w)∧
  ∀i∈Region.ready md ops listed,wpOp P ops Q i (fun a' w' => ∃K':Nat→Prop,(∀c,K c→K' c)∧o5 K w w'∧vP P md ops Q fuel (listed.setIfInBounds i true) K' a' w') a w
theorem rU:∀(fuel:Nat) (listed:Array Bool) (K:Nat→Prop) (a:Act) (w:World),vP P md ops Q fuel listed K a w→wpAny P md ops Q fuel listed a w
 |0,_,_,_,_,h=>h
 |fuel+1,_,_,_,_,h=>⟨h.1,fun i hi=>wpOp_mono (fun a' w' ⟨K',_,_,h'⟩=>rU fuel _ K' a' w' h') (h.2 i hi)⟩
theorem YieldsIf.mono{S S':World→Prop}{o:Oper}{v:Value}{a:Act}(h:YieldsIf P ops S o v a)(hs:∀w,S' w→S w):YieldsIf P ops S' o v a:=
 h.imp (fun⟨h1,h2⟩=>⟨h1,fun w hw=>h2 w (hs w hw)⟩) id
theorem lu{i:Nat}{oi:Oper}{v:Value}(hi:ops[i]? =some oi)(AFT:∀(j:Nat) (o:Oper) cs b,ops[j]? =some o→o.op≠ .select cs b)(hQ:∀c a w,¬Q (.panic c) a w):
  ∀(fuel:Nat) (listed:Array Bool) (K:Nat→Prop) (a:Act) (w:World),
   (∀j oj,ops[j]? =some oj→j≠i→listed.getD j true=false→(∀e∈oj.after,Region.binds md e=true→e.on≠i)→oi.apart ops oj=true)→
   i∈Region.ready md ops listed→YieldsIf P ops (o5 K w) oi v a→vP P md ops Q fuel (listed.setIfInBounds i true) K (a.put oi.dst v) w→vP P md ops Q (fuel+1) listed K a w:=by
 intro fuel
 induction fuel with
 |zero=>
  intro listed K a w _ hr hy H;refine⟨fun h=>(by simp_all),fun j hj=> ?_⟩;by_cases hji:j=i
  ·subst hji;exact hy.wpOp hi (o5.refl K w) ⟨K,fun _ h=>h,o5.refl K w,H⟩
  ·have:=ready_mono hj hji
   rw[H.1]at this;cases this
 |succ fuel ih=>
  intro listed K a w bd hr hy H;refine⟨fun h=>(by simp_all),fun j hj=> ?_⟩;by_cases hji:j=i
  ·subst hji;exact hy.wpOp hi (o5.refl K w) ⟨K,fun _ h=>h,o5.refl K w,H⟩
  ·have h1:=H.2 j (ready_mono hj hji)
   obtain⟨hjun,oj,hoj,gC⟩:=mem_ready.1 hj;have ATL:∀e∈oj.after,Region.binds md e=true→e.on≠i:=fun e he hb heq=>by
    grind[mem_ready,Nat.lt_or_ge,Array.getElem?_eq_none]
   have h2:=wpOp_putIf hoj (bd j oj hoj hji hjun ATL) (fun cs b=>AFT i oi cs b hi) (fun cs b=>AFT j oj cs b hoj) (fun c a w h=>absurd h (hQ c _ w)) hy h1;have AQx:∀k ok,ops[k]? =some ok→k≠i→(listed.setIfInBounds j true).getD k true=false→
     (∀e∈ok.after,Region.binds md e=true→e.on≠i)→oi.apart ops ok=true:=fun k ok hk hki hun hno=>by
    refine bd k ok hk hki ?_ hno
    by_cases hjk:j=k
    all_goals simp_all
   refine wpOp_mono (fun a' w' h3=> ?_) h2;obtain⟨xN,K',hK,hs,ht⟩:=h3;refine⟨K',hK,hs,ih (listed.setIfInBounds j true) K' a' w' AQx (ready_mono hr (Ne.symm hji)) (YieldsIf.mono xN fun w'' AXx c hc=>(AXx c (hK c hc)).trans (hs c hc)) ?_⟩;grind[Array.setIfInBounds_comm]
end
theorem lE{Y:Type}{f:Nat→List Bool→Option Y}{y:Y}:∀{rs:ABI},(∀ω,tK f rs ω=some y)→ ∀i∈rs,∀ω,f i ω=some y
 |[i],h,j,hj,ω=>by
  simp at hj;subst hj;exact h ω
 |i::j::r,h,k,hk,ω=>by
  rcases AO3.1 hk with rfl|hk
  ·exact h (true::ω)
  ·exact lE (rs:=j::r) (fun ω=>h (false::ω)) k hk ω
theorem vU{σ:St}{t:Nat}{b:Bool}(e:σ.tm[t]? =some (.c (.v .bool b))):σ.put (some t) (.c (.v .bool b))=σ:=by
 simp only[St.put];obtain⟨tm,bx⟩:=σ;simp only[St.mk.injEq,ASn];obtain⟨Jq,he⟩:=ALf.1 e;apply AUx;grind
theorem rv{Y I:Type}[Nonempty I]{C:Z9}{ops:Array Oper}{o:Oper}{kn:I→St→Option Y}{σ:St}{y:Y}{E:Env}{a:Act}{w:World}(h:Rel E σ a w)
  (e:∀ω,AAE C ops o (kn ω) σ=some y):
  (Region.wanted o (yielded ops a.tmps)=true∧ ∀ω,(WM C.T C.Γ o σ fun x σ' =>kn ω (σ'.put o.dst x))=some y)∨
  (Region.wanted o (yielded ops a.tmps)=false∧ ∀ω,kn ω (σ.put o.dst (.Mh []))=some y):=by
 unfold AAE at e;cases hg:o.guard with
 |none=>
  simp only[hg]at e;grind[Region.wanted]
 |some q=>
  obtain⟨j,want⟩:=q;simp only[hg]at e;cases ht:(ops[j]?).bind (·.dst)with
  |none=>
   simp_all
  |some t=>
   simp only[ht]at e;obtain⟨i0⟩:= ‹Nonempty I›;have e0:=e i0;split at e0
   ·rename_i b hb
    simp only[hb]at e;obtain⟨v,hv,hx⟩:=h.tmp hb;have hvb:=RJ (E:=E) (w:=w) (vw:=σ.bx) hx;subst hvb;have hy:yielded ops a.tmps j=some b:=by rw[a_ ht hv];rfl
    have hk:=vU hb;cases b with
    |true=>
     simp only[AMJ,tt,hk]at e;cases want with
     |true=>grind[Region.wanted]
     |false=>grind[Region.wanted]
    |false=>
     simp only[ALz,ff,hk]at e;cases want with
     |true=>grind[Region.wanted]
     |false=>grind[Region.wanted]
   ·rename_i hb
    simp only[hb]at e;obtain⟨v,hv,vs,rfl,hx⟩:=h.tmp hb;grind[yielded,a_,Region.wanted]
   simp_all
theorem ADb{ops:Array Oper}{o:Oper}{σ:St}{E:Env}{a:Act}{w:World}(h:Rel E σ a w)(e:idle ops σ o=true):Region.wanted o (yielded ops a.tmps)=false:=by
 unfold idle at e;cases hg:o.guard with
 |none=>simp_all
 |some q=>
  obtain⟨j,want⟩:=q;simp only[hg]at e;cases ht:(ops[j]?).bind (·.dst)with
  |none=>simp_all
  |some t=>
   simp only[ht]at e;split at e
   ·rename_i b hb
    obtain⟨v,hv,hx⟩:=h.tmp hb;have hvb:=RJ (E:=E) (w:=w) (vw:=σ.bx) hx;grind[yielded,a_,Region.wanted]
   ·rename_i hb
    obtain⟨v,hv,vs,rfl,hx⟩:=h.tmp hb;grind[yielded,a_,Region.wanted]
   simp_all
theorem sE{Y I:Type}[Nonempty I]{C:Z9}{ops:Array Oper}{i:Nat}{o:Oper}(ho:ops[i]? =some o){kn:I→St→Option Y}{σ:St}{y:Y}{E:Env}{a:Act}{w:World}(h:Rel E σ a w)
  (e:∀ω,AAd C ops i (kn ω) σ=some y):
  (Region.wanted o (yielded ops a.tmps)=true∧ ∀ω,(WM C.T C.Γ o σ fun x σ' =>kn ω (σ'.put o.dst x))=some y)∨
  (Region.wanted o (yielded ops a.tmps)=false∧ ∀ω,kn ω (σ.put o.dst (.Mh []))=some y):=
 rv h fun ω=>by
  grind[AAd]
theorem ADT{hint t:ABI}{E E':Env}{bx QX:List Bx}{w w':World}(h:Q6 t E bx w E' QX w')(ht:∀b∈t,b∉hint)(ha:∀b∈hint,jl QX b=false):
  (∀c,Kof hint E w bx c→Kof hint E' w' QX c)∧o5 (Kof hint E w bx) w w':=by
 have key:∀n B,n∈hint→bx[n]? =some B→ ∃B',QX[n]? =some B'∧U1 B B'∧ ∀c,xH E w n B c→w'.heap[c]? =w.heap[c]?:=by
  intro n B hn hB;have hd:=ha n hn;unfold jl at hd;split at hd
  ·cases hd
  ·rename_i B' bM TF
   obtain⟨h1,h2⟩:=h.frame n B B' (fun hm=>ht n hm hn) hB TF bM;simp_all
  simp_all
 refine⟨fun c hc=> ?_,fun c hc=> ?_⟩
 ·rcases hc with hc|⟨n,B,hn,hB,hc⟩
  ·exact .inl (h.base.T c hc)
  ·obtain⟨B',TF,hs,hh⟩:=key n B hn hB
   have hid:=h.ids n (ALf.1 hB).1;refine .inr ⟨n,B',hn,TF,?_⟩;cases B with
   |mem cs=>
    cases B' with
    |mem cx=>grind[xH]
    |sl _ _ _=>exact hs.elim
    |dead=>exact hs.elim
   |sl d r rows=>
    cases B' with
    |mem cx=>exact hs.elim
    |dead=>exact hs.elim
    |sl d' r' C1=>
     simp only[U1,AMn]at hs;obtain⟨rfl,hs⟩:=hs;obtain rfl:=AQ3 hs;grind[xH,mz]
   |dead=>exact hc.elim
 ·rcases hc with hc|⟨n,B,hn,hB,hc⟩
  ·exact h.base.heap c hc
  grind
theorem ZB{Y:Type}{C:Z9}{hint:ABI}{ops:Array Oper}{kn:List Bool→St→Option Y}{fuel:Nat}{listed:Array Bool}{ω:List Bool}{σ:St}{y:Y}(e:Ts C hint ops kn fuel listed ω σ=some y):∀b∈hint,jl σ.bx b=false:=by
 grind[Ts,List.all_eq_true]
theorem sj{Y:Type}{P:Program}{C:Z9}(hT:Ef P C.T)(hΓ:fL P C.Γ){E0:Env}{w0:World}{N nb:Nat}{hint:ABI}{ops:Array Oper}{kn:List Bool→St→Option Y}{y:Y}{Q:Exit→Act→World→Prop}
  (AFT:Region.noSelect ops=true) (hP:∀c a w,¬Q (.panic c) a w) (hk:∀E σ a w,Ok E0 w0 N nb E σ a w→(∀ω,kn ω σ=some y)→Q .normal a w):
  ∀(fuel:Nat) {listed:Array Bool} {E:Env} {σ:St} {a:Act} {w:World},Ok E0 w0 N nb E σ a w→(∀ω,Ts C hint ops kn fuel listed ω σ=some y)→vP P .any ops Q fuel listed (Kof hint E w σ.bx) a w:=by
 intro fuel
 induction fuel with
 |zero=>
  intro listed E σ a w h e;have e1:=fun ω=>e ω
  unfold Ts at e1;have hal:=ZB (e []);have ASS:(hint.all fun b=> !jl σ.bx b)=true:=AS0.2 fun b hb=>by simp_all
  simp only[ASS,ASe]at e1;cases hr:Region.ready .any ops listed with
  |nil=>
   simp only[hr]at e1;exact⟨hr,hk E σ a w h e1⟩
  |cons i rs=>
   simp_all
 |succ fuel ih=>
  intro listed E σ a w h e;have e1:=fun ω=>e ω
  unfold Ts at e1;have hal:=ZB (e []);have ASS:(hint.all fun b=> !jl σ.bx b)=true:=AS0.2 fun b hb=>by simp_all
  simp only[ASS,ASe]at e1;cases hr:Region.ready .any ops listed with
  |nil=>
   simp only[hr]at e1;exact⟨fun _=>hk E σ a w h e1,by simp_all⟩
  |cons i0 rs=>
   simp only[hr]at e1;cases hf:(i0::rs).find? (o3 hint ops listed σ)with
   |some i=>
    simp only[hf]at e1;have hi:=ATE hf;have ht:=List.find?_some hf
    unfold o3 at ht;cases ho:ops[i]? with
    |none=>simp_all
    |some o=>
     simp only[ho,ALp]at ht;have bd:=Region.free_spec ho ht.2;rw[←hr]at hi;have hy:=sE (I:=List Bool) (kn:=fun ω σ' =>Ts C hint ops kn fuel (listed.setIfInBounds i true) ω σ') ho h.rel e1;rcases hy with⟨hw,hx⟩|⟨hw,hx⟩
     ·have hq:i7 hint σ o.op=true:=by
       rcases AR9 _ _▸ht.1 with hq|hi
       ·omega
       ·rw[ADb h.rel hi]at hw
        cases hw
      obtain⟨x,σ',hx0,hx1⟩:=jv hx;obtain⟨v,x',q1,q2,q3⟩:=yp hT h.rel hq hx0;simp only[k0,ALW,APo]at q2;obtain⟨rfl,rfl⟩:=q2;have iU:=ih (h.put o.dst q1) hx1;have ug:(σ.put o.dst x').bx=σ.bx:=by cases o.dst<;>rfl
      rw[ug]at iU;exact lu ho (Region.noSelect_spec AFT) hP fuel listed _ a w bd hi (.inl ⟨hw,q3⟩) iU
     ·have iU:=ih (h.put o.dst oT) hx
      have ug:(σ.put o.dst (.Mh [])).bx=σ.bx:=by cases o.dst<;>rfl
      rw[ug]at iU;exact lu ho (Region.noSelect_spec AFT) hP fuel listed _ a w bd hi (.inr ⟨hw,rfl⟩) iU
   |none=>
    simp only[hf]at e1;have gC:=lE e1;refine⟨fun h0=>(by simp_all),fun i hi=> ?_⟩;rw[hr]at hi;have hx:=gC i hi;cases ho:ops[i]? with
    |none=>
     simp_all
    |some o=>
     simp only[ho]at hx;have htc:(KD C.Γ σ o.op).all (fun b=> !hint.contains b)=true:=by
      have:=hx [];simp_all
     simp only[htc,ASe]at hx;have htn:∀b∈KD C.Γ σ o.op,b∉hint:=fun b hb hh=>by
      simp_all
     unfold wpOp;simp only[ho];rcases sE (I:=List Bool) (kn:=fun ω σ' =>Ts C hint ops kn fuel (listed.setIfInBounds i true) ω σ') ho h.rel hx with⟨hw,hx⟩|⟨hw,hx⟩
     ·rw[ALI hw]
      obtain⟨x,σ',hx0,hx1⟩:=jv hx;refine .inl (AAW hT hΓ h.rel hx0 fun v w' E' x' σ'' g1 g2 g3 g4 g5=> ?_);simp only[k0,ALW,APo]at g5;obtain⟨rfl,rfl⟩:=g5;have ug:(σ''.put o.dst x').bx=σ''.bx:=by cases o.dst<;>rfl
      have ATm:=ZB (hx1 []);rw[ug]at ATm;obtain⟨k1,k2⟩:=ADT g3 htn ATm;have iU:=ih ((h.next g1 g3 g4).put o.dst g2) hx1;grind
     ·rw[ALT (by simp[hw])]
      have iU:=ih (h.put o.dst oT) hx;have ug:(σ.put o.dst (.Mh [])).bx=σ.bx:=by cases o.dst<;>rfl
      grind[o5.refl]
end Go.Fw
end
section
namespace Go.Fw
theorem Rel.heap{E:Env}{σ:St}{a:Act}{w w':World}(h:Rel E σ a w)(hw:w'.heap=w.heap):Rel E σ a w':=by
 have keep:SR E w σ.bx E w' σ.bx:=by
  refine⟨APz _,fun _ _=>rfl,fun _ h=>h,fun _ h=>h,h.bx.st,fun _ _=>by rw[hw],fun b d r rows hb e=>⟨d,rows,e,fun p hp q ys hg=>⟨hp,⟨ys,hg,rfl⟩,fun hh he=> ?_⟩⟩⟩;obtain⟨Fs,⟨f1,f2⟩,_⟩:=h.bx;have hF:Fs[b]? =some (Fs[b]'(by omega)):=ALR _;exact tZ (f2 b _ _ e hF).2 (fun _ _=>by rw[hw]) (fun _ _=>by rw[hw]) hp hg he
 exact⟨h.NO,h.tm.imp fun _ _ hx=>O1 keep hx,h.bx.turn (fun _ _ hv=>GK keep hv) (fun _ h=>h) (fun _ _=>rfl) (fun _ _=>rfl) (fun _ _ _=>by rw[hw]) fun F hF=>⟨hF.nodup,hF.free,fun c hc=>by rw[hw];exact hF.lt c hc,hF.st,fun c hc=>by rw[hw];exact hF.cA c hc⟩⟩
theorem Ok.drawn{E0 E:Env}{w0 w:World}{N nb:Nat}{σ:St}{a:Act}(h:Ok E0 w0 N nb E σ a w)(n:Nat):Ok E0 w0 N nb E σ a { w with drawn:=n }:=
 ⟨h.rel.heap rfl,⟨h.base.T,h.base.S,h.base.Tof,h.base.zq,h.base.heap,h.base.os,h.base.tape,h.base.output,h.base.size⟩,h.tm,h.qQ,h.ids⟩
theorem kI{Y I:Type}[Nonempty I]{P:Program}{C:Z9}(hT:Ef P C.T)(hΓ:fL P C.Γ){E0:Env}{w0:World}{N nb:Nat}{all:Array Oper}{kn:I→St→Option Y}{y:Y}{Q:Exit→Act→World→Prop}
  (hk:∀E σ a w,Ok E0 w0 N nb E σ a w→(∀ω,kn ω σ=some y)→Q .normal a w):∀{l:List Oper} {E:Env} {σ:St} {a:Act} {w:World},Ok E0 w0 N nb E σ a w→(∀ω,tE C all l (kn ω) σ=some y)→wpList P all Q l a w
 |[],E,σ,a,w,h,e=>hk E σ a w h e
 |o::rest,E,σ,a,w,h,e=>by
  unfold wpList;rcases rv (kn:=fun ω σ=>tE C all rest (kn ω) σ) h.rel e with⟨hw,hx⟩|⟨hw,hx⟩
  ·rw[ALI hw]
   obtain⟨x,σ',hx0,hx1⟩:=jv hx;refine .inl (AAW hT hΓ h.rel hx0 fun v w' E' x' σ'' g1 g2 g3 g4 g5=> ?_);simp only[k0,ALW,APo]at g5;obtain⟨rfl,rfl⟩:=g5;exact kI hT hΓ hk ((h.next g1 g3 g4).put o.dst g2) hx1
  ·rw[ALT (by simp[hw])]
   exact kI hT hΓ hk (h.put o.dst oT) hx
def Nd(P:Program)(body:Code)(Q:Exit→Act→World→Prop)(a:Act)(w:World):Prop:=
 ∀(b:Frame) (k:List Item) (cs:List Frame),∃e a' w',Q e a' w'∧Arrives P (lone (b.at a (.code body:: .inLoop body::k)) cs w) b k cs e a' w'
theorem Nd.wp{P:Program}{body:Code}{Q:Exit→Act→World→Prop}{a:Act}{w:World}(h:Nd P body Q a w):(Code.loop body).wp P Q a w:=fun b k cs=>by
 obtain⟨e,a',w',hq,bu⟩:=h b k cs;exact⟨e,a',w',hq,.of_steps (.one step_loop) bu⟩
theorem Nd.AIj{P:Program}{body:Code}{Q:Exit→Act→World→Prop}{a:Act}{w:World}(h:body.wp P (Exit.then (Nd P body Q) Q) a w):Nd P body Q a w:=fun b k cs=>by
 obtain⟨e,a₁,w₁,hq,bu⟩:=h b (.inLoop body::k) cs;cases e with
 |normal=>
  obtain⟨e₂,a₂,w₂,hq₂,harr₂⟩:=hq b k cs;exact⟨e₂,a₂,w₂,hq₂,.of_steps (Steps.trans bu (.one step_inLoop)) harr₂⟩
 |exit id=>exact⟨_,a₁,w₁,hq,.pass (x:= .inLoop body) rfl (fun _ _=> .inl (by simp)) bu⟩
 |goto l=>exact⟨_,a₁,w₁,hq,.pass (x:= .inLoop body) rfl (fun _ _=> .inl (by simp)) bu⟩
 |ret=>exact⟨_,a₁,w₁,hq,.pass (x:= .inLoop body) rfl (fun _ _=> .inl (by simp)) bu⟩
 |panic ch=>exact⟨_,a₁,w₁,hq,.pass (x:= .inLoop body) rfl (fun _ _=> .inl (by simp)) bu⟩
 |outgrown=>exact⟨_,a₁,w₁,hq,.pass (x:= .inLoop body) rfl (fun _ _=> .inl (by simp)) bu⟩
abbrev kW:=Exit→Act→World→Prop
def At(P:Program):Code→kW→Nat→Code→kW→Prop
 | .seq a b,Q,ℓ,body,Q' =>At P a (Exit.then (b.wp P Q) Q) ℓ body Q'∨At P b Q ℓ body Q'
 | .cond _ a b,Q,ℓ,body,Q' =>At P a Q ℓ body Q'∨At P b Q ℓ body Q'
 | .block id c,Q,ℓ,body,Q' =>At P c (Exit.inBlock id Q) ℓ body Q'
 | .loop c,Q,ℓ,body,Q' =>(first c= ℓ ∧body=c∧Q' =Q)∨At P c (Exit.then (Nd P c Q) Q) ℓ body Q'
 |_,_,_,_,_=>False
def cT(Q:kW):Prop:= ∀c a w,¬Q (.panic c) a w
theorem cT.then{Q:kW}(h:cT Q)(n:Act→World→Prop):cT (Exit.then n Q):=fun c a w hq=>h c a w hq
theorem cT.inBlock{Q:kW}(h:cT Q)(id:Nat):cT (Exit.inBlock id Q):=fun c a w hq=>h c a w hq
section
variable{Y:Type} {P:Program} {C:Z9} (hT:Ef P C.T) (hΓ:fL P C.Γ) (hm:P.follows .mixedOrders=true) {E0:Env} {w0:World} {N nb:Nat} {y:Y} {J:Nat→St→Option Y}
structure Good (E0:Env) (w0:World) (N nb:Nat) (y:Y) (kn:KN Y) (kx:Nat→KN Y) (kr:KN Y) (Q:kW):Prop where
 n:∀E σ a w,Ok E0 w0 N nb E σ a w→(∀ω,kn ω σ=some y)→Q .normal a w
 x:∀id E σ a w,Ok E0 w0 N nb E σ a w→(∀ω,kx id ω σ=some y)→Q (.exit id) a w
 r:∀E σ a w,Ok E0 w0 N nb E σ a w→(∀ω,kr ω σ=some y)→Q .ret a w
def JOk(P:Program)(E0:Env)(w0:World)(N nb:Nat)(y:Y)(J:Nat→St→Option Y)(cd:Code)(Q:kW):Prop:=
 ∀ ℓ body Q',At P cd Q ℓ body Q'→ ∀E σ a w,Ok E0 w0 N nb E σ a w→J ℓ σ=some y→Nd P body Q' a w
include hT hΓ hm in
theorem xT:∀{cd:Code} {kn:KN Y} {kx:Nat→KN Y} {kr:KN Y} {Q:kW} {E:Env} {σ:St} {a:Act} {w:World},cT Q→Good E0 w0 N nb y kn kx kr Q→JOk P E0 w0 N nb y J cd Q→Ok E0 w0 N nb E σ a w→
  (∀ω,run C J cd kn kx kr ω σ=some y)→cd.wp P Q a w:=by
 intro cd
 induction cd with
 |skip=>intro kn kx kr Q E σ a w hp hg hj h e;exact wp_skip (hg.n E σ a w h e)
 |region id ops draw=>
  intro kn kx kr Q E σ a w hp hg hj h e;simp only[run]at e;cases draw with
  |false=>
   simp only[ALr,AOV]at e;exact wp_region_list (kI hT hΓ hg.n h e)
  |true=>
   simp only[ASe]at e;have hs:Region.noSelect ops=true:=by
    have:=e [];split at this
    ·rename_i hh;exact hh
    ·cases this
   simp only[hs,ASe]at e;exact wp_region_any hm (rU _ _ _ _ _ (sj hT hΓ hs hp hg.n _ (h.drawn _) e))
 |seq x z ihx ihz=>
  intro kn kx kr Q E σ a w hp hg hj h e;simp only[run]at e;refine wp_seq (ihx (hp.then _) ⟨fun E σ a w h e=>ihz hp hg (fun ℓ body Q' OV=>hj ℓ body Q' (.inr OV)) h e,fun id E σ a w h e=>hg.x id E σ a w h e,hg.r⟩ (fun ℓ body Q' OV=>hj ℓ body Q' (.inl OV)) h e)
 |cond c x z ihx ihz=>
  intro kn kx kr Q E σ a w hp hg hj h e;cases c with
  |tmp t=>
   simp only[run]at e;have e0:=e [];split at e0
   ·rename_i b hb
    simp only[hb]at e;obtain⟨v,hv,hx⟩:=h.rel.tmp hb;have hvb:=RJ (E:=E) (w:=w) (vw:=σ.bx) hx;subst hvb;have hev:a.eval (.tmp t)= .bool b:=by simp[Act.eval,AWZ,hv]
    have hk:=vU hb;cases b with
    |true=>
     simp only[AMJ,tt,hk]at e;exact wp_cond_true hev (ihx hp hg (fun ℓ body Q' OV=>hj ℓ body Q' (.inl OV)) h e)
    |false=>
     simp only[ALz,ff,hk]at e;exact wp_cond_false hev (ihz hp hg (fun ℓ body Q' OV=>hj ℓ body Q' (.inr OV)) h e)
   ·cases e0
  |_=>cases e []
 |block id c ih=>
  intro kn kx kr Q E σ a w hp hg hj h e;simp only[run]at e;refine wp_block (ih (hp.inBlock id) ⟨hg.n,fun j E σ a w h e=> ?_,hg.r⟩ (fun ℓ body Q' OV=>hj ℓ body Q' OV) h e);simp only[Exit.inBlock];split
  ·rename_i hid
   simp only[hid,ASe]at e;exact hg.n E σ a w h e
  ·rename_i hid
   simp only[hid,AOV]at e;exact hg.x j E σ a w h e
 |loop body ih=>
  intro kn kx kr Q E σ a w hp hg hj h e;simp only[run]at e;exact Nd.wp (hj (first body) body Q (.inl ⟨rfl,rfl,rfl⟩) E σ a w h (e []))
 |exit id=>intro kn kx kr Q E σ a w hp hg hj h e;exact wp_exit (hg.x id E σ a w h e)
 |ret=>intro kn kx kr Q E σ a w hp hg hj h e;exact wp_ret (hg.r E σ a w h e)
 |_=>intro kn kx kr Q E σ a w hp hg hj h e;cases e []
end
end Go.Fw
end
section
namespace Go.Fw
def labels:Code→List Nat
 | .seq a b=>labels a++labels b
 | .cond _ a b=>labels a++labels b
 | .block _ c=>labels c
 | .loop c=>first c::labels c
 |_=>[]
theorem At.label{P:Program}:∀{cd:Code} {Q:kW} {ℓ :Nat} {body:Code} {Q':kW},At P cd Q ℓ body Q'→ ℓ ∈labels cd
 | .seq a b,Q,ℓ,body,Q',h=>by
  simp only[labels,AOs];exact h.imp At.label At.label
 | .cond _ a b,Q,ℓ,body,Q',h=>by
  simp only[labels,AOs];exact h.imp At.label At.label
 | .block _ c,Q,ℓ,body,Q',h=>At.label (cd:=c) h
 | .loop c,Q,ℓ,body,Q',h=>by
  simp only[labels,AO3];exact h.imp (fun h=>h.1.symm) At.label
section
variable{Y:Type} {P:Program} {C:Z9} (hT:Ef P C.T) (hΓ:fL P C.Γ) (hm:P.follows .mixedOrders=true) {E0:Env} {w0:World} {N nb:Nat} {y:Y} {J:Nat→St→Option Y}
theorem Qn{ℓ :Nat}:∀{cd:Code} {kn:KN Y} {kx:Nat→KN Y} {kr:KN Y},ℓ ∉labels cd→find C J ℓ cd kn kx kr=none
 | .seq a b,kn,kx,kr,h=>by
  simp only[labels,AOs,AXG]at h;simp only[find];rw[Qn h.1];exact Qn h.2
 | .cond _ a b,kn,kx,kr,h=>by
  simp only[labels,AOs,AXG]at h;simp only[find];rw[Qn h.1];exact Qn h.2
 | .block _ c,kn,kx,kr,h=>by simp only[find];exact Qn (cd:=c) h
 | .loop c,kn,kx,kr,h=>by
  simp only[labels,AO3,AXG]at h;simp only[find];rw[ALT (fun e=>h.1 e.symm)];exact Qn h.2
 | .skip,_,_,_,_=>rfl
 | .region _ _ _,_,_,_,_=>rfl
 | .rangeFunc _ _ _ _,_,_,_,_=>rfl
 | .exit _,_,_,_,_=>rfl
 | .scope _,_,_,_,_=>rfl
 | .label _,_,_,_,_=>rfl
 | .goto _,_,_,_,_=>rfl
 | .ret,_,_,_,_=>rfl
 | .refuse _,_,_,_,_=>rfl
include hT hΓ hm in
theorem AIZ{ℓ :Nat}:∀{cd:Code} {kn:KN Y} {kx:Nat→KN Y} {kr:KN Y} {Q:kW} {body:Code} {Q':kW},(labels cd).Nodup→cT Q→Good E0 w0 N nb y kn kx kr Q→JOk P E0 w0 N nb y J cd Q→At P cd Q ℓ body Q'→
  ∃kn' kx' kr',find C J ℓ cd kn kx kr=some (fun ω σ=>run C J body (fun _ σ=>J ℓ σ) kx' kr' ω σ)∧Good E0 w0 N nb y kn' kx' kr' Q'∧cT Q'∧JOk P E0 w0 N nb y J body (Exit.then (Nd P body Q') Q'):=by
 intro cd
 induction cd with
 |seq a b iha ihb=>
  intro kn kx kr Q body Q' hn hp hg hj OV;simp only[labels,AMx]at hn;obtain⟨n1,n2,n3⟩:=hn;have hja:JOk P E0 w0 N nb y J a (Exit.then (b.wp P Q) Q):=fun ℓ body Q' OV=>hj ℓ body Q' (.inl OV)
  have hjb:JOk P E0 w0 N nb y J b Q:=fun ℓ body Q' OV=>hj ℓ body Q' (.inr OV)
  simp only[find];rcases OV with OV|OV
  ·obtain⟨kn',kx',kr',h1,h2⟩:=iha n1 (hp.then _) (kn:=fun ω σ=>run C J b kn kx kr ω σ) (kx:=kx) (kr:=kr)
    ⟨fun E σ a w h e=>xT hT hΓ hm hp hg hjb h e,fun id E σ a w h e=>hg.x id E σ a w h e,hg.r⟩ hja OV
   exact⟨kn',kx',kr',by rw[h1],h2⟩
  ·have: ℓ ∉labels a:=fun h=>n3 ℓ h ℓ OV.label rfl
   rw[Qn this];exact ihb n2 hp hg hjb OV
 |cond c a b iha ihb=>
  intro kn kx kr Q body Q' hn hp hg hj OV;simp only[labels,AMx]at hn;obtain⟨n1,n2,n3⟩:=hn;simp only[find];rcases OV with OV|OV
  ·obtain⟨kn',kx',kr',h1,h2⟩:=iha n1 hp hg (fun ℓ body Q' OV=>hj ℓ body Q' (.inl OV)) OV
   exact⟨kn',kx',kr',by rw[h1],h2⟩
  ·have: ℓ ∉labels a:=fun h=>n3 ℓ h ℓ OV.label rfl
   rw[Qn this];exact ihb n2 hp hg (fun ℓ body Q' OV=>hj ℓ body Q' (.inr OV)) OV
 |block id c ih=>
  intro kn kx kr Q body Q' hn hp hg hj OV;simp only[find];refine ih hn (hp.inBlock id) ⟨hg.n,fun j E σ a w h e=> ?_,hg.r⟩ (fun ℓ body Q' OV=>hj ℓ body Q' OV) OV;simp only[Exit.inBlock];split
  ·rename_i hid
   simp only[hid,ASe]at e;exact hg.n E σ a w h e
  ·rename_i hid
   simp only[hid,AOV]at e;exact hg.x j E σ a w h e
 |loop c ih=>
  intro kn kx kr Q body Q' hn hp hg hj OV;simp only[labels,AWI]at hn;have hj':JOk P E0 w0 N nb y J c (Exit.then (Nd P c Q) Q):=fun ℓ body Q' OV=>hj ℓ body Q' (.inr OV)
  simp only[find];by_cases hl:first c= ℓ
  ·rw[ALI hl]
   rcases OV with⟨_,rfl,rfl⟩|OV
   ·exact⟨kn,kx,kr,rfl,hg,hp,hj'⟩
   ·exact absurd (hl▸OV.label) hn.1
  ·rw[ALT hl]
   rcases OV with⟨h,_⟩|OV
   ·exact absurd h hl
   ·exact ih hn.2 (hp.then _) ⟨fun E σ a w h e=>hj (first c) c Q (.inl ⟨rfl,rfl,rfl⟩) E σ a w h (e []),fun id E σ a w h e=>hg.x id E σ a w h e,hg.r⟩ hj' OV
 |_=>intro kn kx kr Q body Q' hn hp hg hj OV;exact OV.elim
end
theorem gn{E:Env}{w:World}{vw:List Bx}:∀{l:List (Nat×XP)} {x:Gx.V l} {vals:List Value} {tm:List XV},N7 E w vw id l x vals→Cb (XR E w vw) tm vals→Cb (XR E w vw) (Gx.mk id l x tm) vals
 |[],_,_,_,_,h=>h
 |(i,p)::l,x,vals,tm,hs,h=>by
  obtain⟨⟨v,hv,hx⟩,hs⟩:=hs;simp only[Gx.mk];refine gn hs ?_
  have:=Cb.set (i:=i) h hx;have e:vals.set i v=vals:=by
   apply AUx;grind
  simp_all
theorem Cb.undef{E:Env}{w:World}{vw:List Bx}:∀{vals:List Value} {n:Nat},n=vals.length→Cb (XR E w vw) (List.replicate n (.c .undef)) vals
 |[],n,h=>by subst h;trivial
 |v::vals,n,h=>by
  subst h;simp only[ANW,List.replicate_succ];exact⟨trivial,Cb.undef rfl⟩
theorem tX.shared{E E1:Env}{w:World}{bx:List Bx}{m:PD}{s:BX}{x:s.V}{vals:List Value}(h:tX E w bx m s x vals E1)(hb:C_ E w bx bx []):
  ∃E2,E2.Ht=E1.Ht∧E2.Hu=E1.Hu∧cw E w E2 w∧C_ E2 w (Jj.mk id s.Gu x.2) (Jj.mk id s.Gu x.2) []∧N7 E2 w (Jj.mk id s.Gu x.2) id s.Dz x.1 vals:=by
 obtain⟨Fk,k1,k2,k3,k4⟩:=h.rest
 let E2:Env:={ E1 with S:=fun c=>E1.S c∨c∈Fk.flatten }
 have st1:=h.boxes.st;have keep:SR E1 w (Jj.mk id s.Gu x.2) E2 w (Jj.mk id s.Gu x.2):=
  ⟨APz _,fun _ _=>rfl,fun _ h=>h,fun _ h=> .inl h,st1,fun _ _=>rfl,fun b d r rows _ e=>⟨d,rows,e,fun p hp q ys hg=>⟨hp,⟨ys,hg,rfl⟩,fun _ h=>h⟩⟩⟩
 refine⟨E2,rfl,rfl,⟨h.T,fun c hc=> .inl (h.S c hc),fun c hc=> ?_,fun c hc=> ?_,fun _ _=>rfl,rfl,rfl,rfl,APz _⟩,?_,?_⟩
 ·grind
 ·rcases hc with hc|hc
  ·exact h.zq c hc
  grind
 ·refine h.boxes.turn (E':=E2) (w':=w) (fun _ _ hv=>GK keep hv) (fun _ h=> .inl h) (fun _ _=>rfl) (fun _ _=>rfl) (fun _ _ _=>rfl) fun F hF=>⟨hF.nodup,hF.free,hF.lt,fun c hc=>hc.elim (hF.st c) fun h=>(k3 c h).2.2.2,hF.cA⟩
 ·have:∀{l:List (Nat×XP)} {z:Gx.V l},N7 E1 w (Jj.mk id s.Gu x.2) id l z vals→N7 E2 w (Jj.mk id s.Gu x.2) id l z vals:=by
   intro l
   induction l with
   |nil=>intro z h;trivial
   |cons q l ih=>
    obtain⟨i,p⟩:=q;intro z h;obtain⟨⟨v,hv,hx⟩,hs⟩:=h;exact⟨⟨v,hv,O1 keep hx⟩,ih hs⟩
  exact this h.Dz
theorem fO:∀{l:List BP} {i n:Nat},(TO i n l).length=l.length
 |[],_,_=>rfl
 |_::l,i,n=>by simp[TO,fO (l:=l)]
theorem fa:∀{l:List BP} {i n k b:Nat},(TO i n l)[k]? =some (some b)→b=i+k∧b<n∧l[k]?≠some .gone
 |[],i,n,k,b,h=>by simp[TO]at h
 |p::l,i,n,0,b,h=>by
  grind[TO,List.getElem?_cons_zero,Option.some.injEq]
 |p::l,i,n,k+1,b,h=>by
  simp only[TO,AVD]at h;obtain⟨h1,h2,h3⟩:=fa h;grind
theorem fR:∀{l:List BP} {i n k:Nat} {p:BP},l[k]? =some p→p≠ .gone→i+k<n→(TO i n l)[k]? =some (some (i+k))
 |q::l,i,n,0,p,h,hg,hn=>by
  simp at h;subst h;simp only[TO,List.getElem?_cons_zero,ALW];simp_all
 |q::l,i,n,k+1,p,h,hg,hn=>by
  simp only[TO,AVD];rw[fR (l:=l) (i:=i+1) (k:=k) (by simp_all) hg (by omega)];grind
 |[],_,_,_,_,h,_,_=>by simp at h
theorem o8{l:List BP}{n:Nat}:oL (TO 0 n l):=fun i j b h k=>by
 have:=(fa h).1;have:=(fa k).1;omega
end Go.Fw
end
section
namespace Go.Fw
structure ATr (P:Program) (f:Nat) (fn:Func) (c:QP):Prop where
 at_:P.funcs[f]? =some fn
 call:∀args w,(callFunc f args).run P w= .ok (.enter f args) w
 con:c.ok=true
 tmps:c.ins.Dz.length≤fn.ntmps
 labels:∀code,fn.body=some code→(labels code).Nodup
section
variable{P:Program} {C:Z9} (hT:Ef P C.T) {E:Env} {σ:St} {a:Act} {w:World}
include hT in
theorem ADv(h:Rel E σ a w):
  ∀{rs:List ResultVar} {xs:List XV},rs.mapM (ADW C.T σ)=some xs→ ∃vs,(∀f:ResultVar→Sem Value,(∀u,f (.tmp u)=pure (a.tmps.getD u undef))→(∀b t,f (.cell b t)=(do loadVar t (←asAddr (a.tmps.getD b undef))))→
   (rs.mapM f).run P w= .ok vs w)∧Cb (XR E w σ.bx) xs vs:=by
 intro rs
 induction rs with
 |nil=>
  intro xs e;have hx:xs=[]:=by simpa using e.symm
  subst hx;exact⟨[],fun f _ _=>by simp,trivial⟩
 |cons r rs ih=>
  intro xs e;rw[AXE]at e;simp only[Option.bind_eq_bind,ALt,Option.pure_def,ALW]at e;obtain⟨x,e1,ys,e2,rfl⟩:=e;obtain⟨vs,h1,h2⟩:=ih e2;have one:∃v,(∀f:ResultVar→Sem Value,(∀u,f (.tmp u)=pure (a.tmps.getD u undef))→(∀b t,f (.cell b t)=(do loadVar t (←asAddr (a.tmps.getD b undef))))→(f r).run P w= .ok v w)∧XR E w σ.bx x v:=by
   cases r with
   |tmp t=>
    simp only[ADW]at e1;obtain⟨v,hv,hx⟩:=h.tmp e1;refine⟨v,fun f hf hc=> ?_,hx⟩;rw[hf];simp[AWZ,hv]
   |cell b t=>
    simp only[ADW]at e1;split at e1
    case h_2=>cases e1
    rename_i z hz;obtain⟨v,hv,hx⟩:=h.tmp hz;obtain⟨Fs,hB,hS⟩:=h.bx;cases z with
    |agg l=>simp[lW]at e1
    |Mh l=>simp[lW]at e1
    |c ad=>
     obtain⟨bb,oo,u,cell,hp,_,q2,q3⟩:=sA hT hB hS.st e1 hx;refine⟨u,fun f hf hc=> ?_,q2⟩;have hgd:a.tmps.getD b undef=v:=by simp[AWZ,hv]
     have:=q3 w rfl;rw[hc,hgd,hp];rw[hp]at this;simpa[Instr.loadAt,Instr.sureAddr,asAddr]using this
  obtain⟨v,g1,g2⟩:=one;refine⟨v::vs,fun f hf hc=> ?_,g2,h2⟩;rw[AXE];simp[g1 f hf hc,h1 f hf hc]
theorem gA{vw:List Bx}:∀{l:List XV} {q:List (AV ⊕ List AV)} {vs:List Value},vR l=some q→Cb (XR E w vw) l vs→Cb (TR E w vw) q vs
 |[],q,[],e,_=>by
  simp only[vR,ALW]at e;subst e;trivial
 |[],_,_::_,_,h=>h.elim
 | .c x::l,q,v::vs,e,h=>by
  simp only[vR,ALe]at e;obtain⟨r,e1,rfl⟩:=e;exact⟨h.1,gA e1 h.2⟩
 | .agg x::l,q,v::vs,e,h=>by
  simp only[vR,ALe]at e;obtain⟨r,e1,rfl⟩:=e;exact⟨h.1,gA e1 h.2⟩
 | .Mh _::_,_,_,e,_=>by simp[vR]at e
 | .c _::_,_,[],_,h=>h.elim
 | .agg _::_,_,[],_,h=>h.elim
include hT in
theorem qU(h:Rel E σ a w){fn:Func}{x:XV}(e:gy C.T σ fn.results.toList=some x):∃v,(results fn a.tmps).run P w= .ok v w∧XR E w σ.bx x v:=by
 unfold gy at e;have key:∀xs,fn.results.toList.mapM (ADW C.T σ)=some xs→ ∃vs:List Value,(results fn a.tmps).run P w= .ok (if h:vs.toArray.size=1 then vs.toArray[0]else .tuple vs.toArray) w∧Cb (XR E w σ.bx) xs vs:=by
  intro xs hx;obtain⟨vs,h1,h2⟩:=ADv (P:=P) hT h hx;refine⟨vs,?_,h2⟩;unfold results;rw[Array.mapM_eq_mapM_toList];simp only[Sem.run_bind,Sem.run_map];rw[h1 _ (fun _=>rfl) (fun _ _=>rfl)];simp only[Result.andThen_ok,Sem.run_pure]
 split at e
 ·rename_i z hz
  cases e;obtain⟨vs,h1,h2⟩:=key _ hz
  match vs,h2 with
  |[v],h2=>exact⟨v,by simpa using h1,h2.1⟩
  |v::_::_,h2=>exact h2.2.elim
  |[],h2=>exact h2.elim
 ·rename_i l hl hz
  simp only[ALe]at e;obtain⟨q,e1,rfl⟩:=e;obtain⟨vs,h1,h2⟩:=key _ hz;have bM: ¬vs.toArray.size=1:=fun hs=>by
   have:=Cb.len h2
   match l,this with
   |[z],_=>exact hl z rfl
   |[],t=>simp at t hs;omega
   |_::_::_,t=>simp at t hs;omega
  rw[dif_neg bM]at h1;exact⟨_,h1,vs.toArray,rfl,by simpa using gA e1 h2⟩
 ·cases e
end
theorem fA{E:Env}{w:World}{vw:List Bx}{more:List Value}:∀{l:List (Nat×XP)} {x:Gx.V l} {vals:List Value},N7 E w vw id l x vals→N7 E w vw id l x (vals++more)
 |[],_,_,_=>trivial
 |(i,p)::l,x,vals,h=>by
  obtain⟨⟨v,hv,hx⟩,hs⟩:=h;exact⟨⟨v,by grind,hx⟩,fA hs⟩
def AAF(C:Z9)(c:QP)(fn:Func)(code:Code)(J:Nat→Nat→St→Option c.outs.V):Prop:=
 ∀ ℓ,ℓ ∈labels code→ ∃(s:BX) (F:Nat→s.V→Option c.outs.V),(∀n,J n ℓ =jump c.ins.Gu.length s (F n))∧(∀v,F 0 v=none)∧
  ∀n v y,F (n+1) v=some y→ ∀ω,G2 C c fn (J n) ℓ ω (s.st fn.ntmps v)=some y
section
variable{P:Program} {C:Z9} (hT:Ef P C.T) (hΓ:fL P C.Γ) (hm:P.follows .mixedOrders=true) {fn:Func} {c:QP}
def AQQ(c:QP)(E0:Env)(w0:World)(u:c.outs.V)(e:Ending)(w':World):Prop:=
 ∃x E',e= .returned x∧cw E0 w0 E' w'∧C_ E' w' (Jj.mk id c.outs.Gu u.2) (Jj.mk id c.outs.Gu u.2) []∧
  N7 E' w' (Jj.mk id c.outs.Gu u.2) id c.outs.Dz u.1 [x]∧ ∀i,i<c.ins.Gu.length→alive c.outs.Gu i=true→E'.Ht i=E0.Ht i∧E'.Hu i=E0.Hu i
theorem Ok.opens{E0 E:Env}{w0 w:World}{N nb:Nat}{σ:St}{a:Act}(h:Ok E0 w0 N nb E σ a w)(s:BX):∃E',Ok E0 w0 N nb E' { σ with bx:=s.opens σ.bx } a w∧
  (∀(i:Nat) d r,s.Gu[i]? =some (.sl d r)→E'.Hu (σ.bx.length+i)= .slice none 0 0)∧(∀x v,XR E w σ.bx x v→XR E' w (s.opens σ.bx) x v):=by
 obtain⟨E',h1,h2,h3,h4⟩:=sI h.rel s;exact⟨E',h.next h1 h2 rfl,h3,h4⟩
theorem AE0{E E':Env}{w:World}{vw:List Bx}{b:Nat}(h:Le E E')(st:∀c,E.S c→E.T c):SR E w vw E' w (vw.set b .dead):=by
 refine⟨by simp,fun b _=>by rw[h.Ht],h.T,h.S,st,fun _ _=>rfl,fun c d r rows _ e=> ?_⟩;by_cases hc:c=b
 ·simp_all
 ·rw[AR8 (fun e=>hc e.symm)]at e
  exact⟨d,rows,e,fun p hp q ys hg=>⟨hp,⟨ys,hg,rfl⟩,fun h' hh=>by rw[h.Hu];omega⟩⟩
theorem AH7{E:Env}{σ:St}{a:Act}{w:World}(h:Rel E σ a w)(b:Nat):∃E',Rel E' (σ.nN b) a w∧Le E E':=by
 unfold St.nN;split
 case h_2=>grind[Le.refl]
 rename_i d r rows hb;obtain⟨F,hF,hB⟩:=h.bx.take hb;have XU:C_ E w σ.bx (σ.bx.set b .dead) ([]++F++[]):=by simp_all
 obtain⟨hle,hB3⟩:=XU.share;have hk:=AE0 (vw:=σ.bx) (b:=b) (w:=w) hle h.bx.st;have hk2:SR E w σ.bx { E with S:=fun c=>E.S c∨c∈F,T:=fun c=>E.T c∨c∈F } w ((σ.bx.set b .dead).map (Bx.nN b r rows)):=by
  refine⟨by simp,hk.Ht,hk.T,hk.S,hk.st,hk.heap,fun c d' r' C1 hc e=> ?_⟩;rw[ARB,ALe]at e;obtain⟨B,e,eB⟩:=e;cases B with
  |mem cs=>cases eB
  |dead=>cases eB
  |sl d0 r0 SB=>
   cases eB;grind
 have hv:∀x v,VR E w σ.bx x v→VR { E with S:=fun c=>E.S c∨c∈F,T:=fun c=>E.T c∨c∈F } w ((σ.bx.set b .dead).map (Bx.nN b r rows)) (x.nN b r rows) v:=fun x v hx=>by
  unfold AV.nN;split
  ·rename_i c
   split
   ·rename_i hc
    subst hc;obtain⟨h1,h2⟩:=hx;rw[hb]at h2;have hv:=h2.2.2;rw[DB]at hv;simp only[ALW]at hv;have:=XJ hF.2;rw[hv]at this;exact Fl (fun c hc=>hc) (fun _ _=>rfl) this
   grind[GK]
  grind[GK]
 refine⟨_,⟨h.NO,?_,?_⟩,hle⟩
 ·refine Cb.Ld _ (fun x v hx=> ?_) h.tm
  unfold XV.nN;split
  ·exact hv _ _ hx
  grind[O1]
 ·obtain⟨Fs,⟨hl,h1⟩,h2⟩:=hB
  have h2':Sep E w (F++Fs.flatten):=h2.perm (by grind);refine⟨Fs,⟨by simp_all,fun k B G TF hG=> ?_⟩,?_⟩
  ·rw[ARB,ALe]at TF
   obtain⟨B0,e,rfl⟩:=TF;have h3:=h1 k B0 G e hG;cases B0 with
   |mem cs=>
    obtain⟨rfl,arr,ty,fr,a1,a2,a3⟩:=h3;exact⟨rfl,arr,ty,fr,a1,a2,Cb.Ld _ (fun x v hx=>hv x v hx) a3⟩
   |sl d0 r0 SB=>exact⟨h3.1,ES hle.S (fun _ _=>rfl) (fun _ _=>rfl) h3.2⟩
   |dead=>exact h3
  ·rw[AMa]
   have st:=h.bx.st;refine⟨(AMx.1 h2'.nodup).2.1,fun c hc ht=> ?_,fun c hc=>h2'.lt c (by simp_all),fun c hc=>hc.imp (st c) id,fun c hc=>hc.elim (h2'.cA c) fun h' =>h2'.lt c (by simp[h'])⟩;rcases ht with ht|ht
   ·exact h2'.free c (AOs.2 (.inr hc)) ht
   ·exact(AMx.1 h2'.nodup).2.2 c ht c hc rfl
theorem ADo{σ:St}{b i:Nat}(h:σ.bx[i]? =some .dead):(σ.nN b).bx[i]? =some .dead:=by
 unfold St.nN;split
 ·simp only[ARB,List.getElem?_set]
  split
  ·simp_all
  ·rw[h];rfl
 omega
theorem zf{σ:St}{b:Nat}:(σ.nN b).bx.length=σ.bx.length∧(σ.nN b).tm.length=σ.tm.length:=by
 grind[St.nN]
theorem Ok.nN{E0 E:Env}{w0 w:World}{N nb:Nat}{σ:St}{a:Act}(h:Ok E0 w0 N nb E σ a w)(b:Nat):∃E',Ok E0 w0 N nb E' (σ.nN b) a w:=by
 obtain⟨E',h1,h2⟩:=AH7 h.rel b;refine⟨E',⟨h1,h.base.trans (h2.base w),by rw[zf.2];exact h.tm,by rw[zf.1];exact h.qQ,fun i hi hd=> ?_⟩⟩;rw[h2.Ht,h2.Hu];exact h.ids i hi fun e=>hd (ADo e)
theorem Ok.G9{E0:Env}{w0 w:World}{N nb:Nat}{a:Act}:∀(l:List AP) (xs:List AV) {E:Env} {σ:St},Ok E0 w0 N nb E σ a w→ ∃E',Ok E0 w0 N nb E' (G9 l xs σ) a w:=by
 intro l xs E σ h
 induction l generalizing xs E σ with
 |nil=>grind[Fw.G9]
 |cons p l ih=>
  unfold Fw.G9;split
  ·rename_i heq
   cases heq;obtain⟨E',h'⟩:=h.nN _;exact ih _ h'
  ·rename_i heq
   cases heq;exact ih _ h
  grind
theorem Ok.AaD{E0:Env}{w0 w:World}{N nb:Nat}{a:Act}{bs:List BP}:∀(l:List (Nat×XP)) {E:Env} {σ:St},Ok E0 w0 N nb E σ a w→ ∃E',Ok E0 w0 N nb E' (Pe bs l σ) a w:=by
 intro l
 induction l with
 |nil=>intro E σ h;exact⟨E,h⟩
 |cons q l ih=>
  intro E σ h;unfold Pe;split
  ·simp_all
  ·rename_i e
   cases e;split
   ·obtain⟨E',h'⟩:=h.G9 [_] [_]
    exact ih h'
   grind
  ·rename_i e
   cases e;split
   ·split
    ·obtain⟨E',h'⟩:=h.G9 _ _
     exact ih h'
    grind
   grind
  grind
theorem tV{E:Env}{w:World}{vw:List Bx}{x:AV}{v:Value}(h:VR E w vw x v)(hx:x.rS=true):isSlice v=true:=by
 cases x with
 |ref b p=>exact h.1
 |win b p o n=>exact h.1
 |sl s r y=>
  simp only[VR,Rd]at h;obtain⟨a,cap,h,_⟩:=h;simp only[AQN,ASn]at h;rw[h];rfl
 |nil=>cases h;rfl
 |_=>cases hx
theorem xZ{E:Env}{σ:St}{a:Act}{w:World}(h:Rel E σ a w)(b j:Nat):Rel E (σ.forget b j) a w∧σ.bx.length≤(σ.forget b j).bx.length∧(∀i:Nat,σ.bx[i]? =some Bx.dead→(σ.forget b j).bx[i]? =some Bx.dead)∧(σ.forget b j).tm=σ.tm:=by
 unfold St.forget;split
 case h_2=>simp_all
 rename_i cs hb;split
 case h_2=>simp_all
 rename_i x hx;split
 case isFalse=>simp_all
 rename_i hs;have hbl:=(ALf.1 hb).1;have hk:SR E w σ.bx E w (σ.bx.set b (.mem (cs.set j (.ref σ.bx.length [])))++[.dead]):=by
  refine⟨by simp,fun _ _=>rfl,fun _ h=>h,fun _ h=>h,h.bx.st,fun _ _=>rfl,fun c d r rows hc e=> ?_⟩;grind
 refine⟨⟨h.NO,h.tm.imp fun _ _ hx=>O1 hk hx,?_⟩,by simp,fun i hi=> ?_,rfl⟩
 ·obtain⟨Fs,⟨hl,h1⟩,h2⟩:=h.bx
  refine⟨Fs++[[]],⟨by simp[hl],fun k B G hB hG=> ?_⟩,by simp_all⟩;by_cases hk2:k<σ.bx.length
  ·rw[ANA (by simp_all)]at hB
   rw[ANA (by omega)]at hG;by_cases hkb:b=k
   ·subst hkb
    rw[ASx hk2]at hB;cases hB;obtain⟨rfl,arr,ty,fr,a1,a2,a3⟩:=h1 b _ G hb hG;refine⟨rfl,arr,ty,fr,a1,a2,?_⟩;have a4:gi E w (σ.bx.set b (.mem (cs.set j (.ref σ.bx.length [])))++[.dead]) cs arr.toList:=a3.imp fun _ _ hv=>GK hk hv
    obtain⟨v,hv,hvr⟩:=a3.get hx;have Wb:arr.toList.set j v=arr.toList:=by
     apply AUx;grind
    rw[←Wb];refine Cb.set a4 ⟨tV hvr hs,?_⟩;simp_all
   ·rw[AR8 hkb]at hB
    have h3:=h1 k B G hB hG;cases B with
    |mem cx=>
     obtain⟨rfl,arr,ty,fr,a1,a2,a3⟩:=h3;exact⟨rfl,arr,ty,fr,a1,a2,a3.imp fun _ _ hv=>GK hk hv⟩
    |sl d0 r0 SB=>exact h3
    |dead=>exact h3
  ·have hlen:=(ALf.1 hB).1
   simp only[APV,ATZ,ANW,AQF]at hlen;have hkk:k=σ.bx.length:=by omega
   subst hkk;rw[AOU (by simp)]at hB;rw[AOU (by omega)]at hG;simp[hl]at hB hG;subst hB hG;rfl
 grind
theorem Ok.forget{E0 E:Env}{w0 w:World}{N nb:Nat}{σ:St}{a:Act}(h:Ok E0 w0 N nb E σ a w)(b j:Nat):Ok E0 w0 N nb E (σ.forget b j) a w:=by
 obtain⟨h1,h2,h3,h4⟩:=xZ h.rel b j;exact⟨h1,h.base,by rw[h4];exact h.tm,ARE h.qQ h2,fun i hi hd=>h.ids i hi fun e=>hd (h3 i e)⟩
theorem Ok.XB{E0 E:Env}{w0 w:World}{N nb:Nat}{a:Act}{bs:List BP}{b:Nat}:∀(l:List AP) (j:Nat) {σ:St},Ok E0 w0 N nb E σ a w→Ok E0 w0 N nb E (XB bs b j l σ) a w
 |[],_,_,h=>h
 |p::l,j,σ,h=>by
  simp only[Fw.XB];refine Ok.XB l (j+1) ?_
  split
  ·split
   ·exact h.forget _ _
   omega
  omega
theorem Ok.AWU{E0 E:Env}{w0 w:World}{N nb:Nat}{a:Act}{bs:List BP}:∀(l:List (Nat×XP)) {σ:St},Ok E0 w0 N nb E σ a w→Ok E0 w0 N nb E (cG bs l σ) a w
 |[],_,h=>h
 |(i,p)::l,σ,h=>by
  simp only[cG];refine Ok.AWU l ?_
  split
  ·split
   ·exact h.XB _ _
   omega
  omega
theorem Ok.aK{E0:Env}{w0 w:World}{N nb:Nat}{a:Act}:∀(l:List (AP ⊕ List AP)) (xs:List (AV ⊕ List AV)) {E:Env} {σ:St},Ok E0 w0 N nb E σ a w→ ∃E',Ok E0 w0 N nb E' (aK l xs σ) a w:=by
 intro l xs E σ h
 induction l generalizing xs E σ with
 |nil=>unfold Fw.aK;exact⟨E,h⟩
 |cons p l ih=>
  unfold Fw.aK;split
  ·rename_i heq
   cases heq;obtain⟨E',h'⟩:=h.G9 _ _;exact ih _ h'
  ·rename_i heq
   cases heq;obtain⟨E',h'⟩:=h.G9 _ _;exact ih _ h'
  ·rename_i heq
   cases heq;exact ih _ h
  ·exact⟨E,h⟩
theorem Ok.kD{E0 E:Env}{w0 w:World}{N nb:Nat}{σ:St}{a:Act}(h:Ok E0 w0 N nb E σ a w)(l:List (Nat×XP))(x:XV):∃E',Ok E0 w0 N nb E' (kD l x σ) a w:=by
 unfold Fw.kD;split
 ·unfold AVb
  split
  ·exact h.G9 _ _
  ·exact h.G9 _ _
  ·exact h.aK _ _
  ·exact⟨E,h⟩
 ·exact⟨E,h⟩
include hT in
theorem rp{E0 E:Env}{w0 w:World}{N:Nat}{σ:St}{a:Act}{u:c.outs.V}(h:Ok E0 w0 N c.ins.Gu.length E σ a w)(e:qk C.T c fn.results.toList σ=some u):
  a.defers=[]∧ ∃v,(results fn a.tmps).run P w= .ok v w∧AQQ c E0 w0 u (.returned v) w:=by
 unfold qk at e;simp only[ALt,ALe]at e;obtain⟨x0,_,x,e1,⟨u',m⟩,e2,rfl⟩:=e;obtain⟨E,h⟩:=h.kD c.outs.Dz x0;revert h e1 e2
 generalize Fw.kD c.outs.Dz x0 σ=σ
 intro e1 e2 h;obtain⟨v,h1,h2⟩:=qU hT h.rel e1;obtain⟨E,h,th,h4⟩:=h.opens c.outs
 replace h2:=h4 _ _ h2
 obtain⟨hext,E1,hf⟩:=kq (tm:=[x]) (vals:=[v]) h.rel.bx ⟨h2,trivial⟩ th fO o8 e2;obtain⟨E2,q1,q2,q3,q4,q5⟩:=hf.shared h.rel.bx;refine⟨h.rel.NO,v,h1,v,E2,rfl,h.base.trans q3,q4,q5,fun i hi hal=> ?_⟩;obtain⟨p,hp,hg⟩:∃p,c.outs.Gu[i]? =some p∧p≠ .gone:=by
  unfold alive at hal;cases hh:c.outs.Gu[i]? with
  |none=>rw[hh]at hal;cases hal
  |some p=>
   refine⟨p,rfl,fun hp=> ?_⟩;rw[hh,hp]at hal;cases hal
 have hm1:=hext.2 i i (by have:=fR (i:=0) (n:=c.ins.Gu.length) hp hg (by omega);simpa using this);obtain⟨b,B,g1,g2,g3,_⟩:=uZ e2 i p hp hg;rw[hm1]at g1;cases g1;have hid:=hf.ids i i hm1;have AEf:=h.ids i hi (fun hd=>by rw[g2]at hd;cases hd;exact g3 rfl);rw[q1,q2];exact⟨hid.1.trans AEf.1,hid.2.trans AEf.2⟩
include hT hΓ hm in
theorem AFV{code:Code}(hb:fn.body=some code)(hl:(labels code).Nodup){J:Nat→Nat→St→Option c.outs.V}(hJ:AAF C c fn code J)
  {E0:Env} {w0:World} {u:c.outs.V} {Q:kW} (hp:cT Q)
  (hg:Good E0 w0 fn.ntmps c.ins.Gu.length u (fun _=>qk C.T c fn.results.toList) (fun _ _ _=>none) (fun _=>qk C.T c fn.results.toList) Q):
  ∀n,JOk P E0 w0 fn.ntmps c.ins.Gu.length u (J n) code Q:=by
 intro n
 induction n with
 |zero=>
  intro ℓ body Q' OV E σ a w h e;obtain⟨s,F,j1,j2,j3⟩:=hJ ℓ OV.label;rw[j1]at e;simp only[jump]at e;split at e
  ·rw[ALt]at e
   obtain⟨q,_,e⟩:=e;rw[j2]at e;cases e
  ·cases e
 |succ n ih=>
  intro ℓ body Q' OV E σ a w h e;obtain⟨s,F,j1,j2,j3⟩:=hJ ℓ OV.label;rw[j1]at e;simp only[jump]at e;split at e
  case isFalse=>cases e
  rename_i qQ;rw[ALt]at e;obtain⟨⟨v,m⟩,e1,e2⟩:=e;dsimp only at e2;obtain⟨E,h⟩:=h.AaD (bs:=s.Gu) s.Dz
  replace h:=h.AWU (bs:=s.Gu) s.Dz
  revert h e1
  generalize cG s.Gu s.Dz (Pe s.Gu s.Dz σ)=σ
  intro e1 h;obtain⟨E,h,th,h4⟩:=h.opens s;obtain⟨hext,E1,hf⟩:=kq h.rel.bx h.rel.tm th fO o8 e1;obtain⟨E2,q1,q2,q3,q4,q5⟩:=hf.shared h.rel.bx;have O_:fn.ntmps=a.tmps.toList.length:=by rw[←Cb.len h.rel.tm,h.tm]
  have Bz:Ok E0 w0 fn.ntmps c.ins.Gu.length E2 (s.st fn.ntmps v) a w:=by
   refine⟨⟨h.rel.NO,gn q5 (Cb.undef O_),q4⟩,h.base.trans q3,?_,?_,fun i hi hd=> ?_⟩
   ·have:=Cb.len (gn q5 (Cb.undef O_))
    simp only[BX.st];rw[this,←O_]
   ·simp only[BX.st]
    rw[TM];exact qQ
   ·simp only[BX.st]at hd
    have hp':s.Gu[i]? =some (s.Gu[i]'(by omega)):=ALR _;have hng:s.Gu[i]'(by omega)≠ .gone:=fun vt=>by
     obtain⟨z,z1,_⟩:=ah id (u:=v.2) hp';apply hd;rw[z1]
     generalize s.Gu[i]'(by omega)=pp at z vt
     subst vt;rfl
    have hm1:=hext.2 i i (by have:=fR (i:=0) (n:=c.ins.Gu.length) hp' hng (by omega);simpa using this);obtain⟨b,B,g1,g2,g3,_⟩:=uZ e1 i _ hp' hng;rw[hm1]at g1;cases g1;have hid:=hf.ids i i hm1;have AEf:=h.ids i hi (fun hd=>by rw[g2]at hd;cases hd;exact g3 rfl);rw[q1,q2];exact⟨hid.1.trans AEf.1,hid.2.trans AEf.2⟩
  have ADj:=j3 n v u e2;obtain⟨kn',kx',kr',zg,lI,hnp,hj⟩:=AIZ hT hΓ hm hl hp hg ih OV;simp only[G2,hb,zg]at ADj;refine Nd.AIj (xT hT hΓ hm (hnp.then _) (kn:=fun _ σ=>J n ℓ σ) ⟨fun E σ a w h e=> ?_,fun id E σ a w h e=>lI.x id E σ a w h e,lI.r⟩ hj Bz ADj);exact ih ℓ body Q' OV E σ a w h (e [])
include hT hΓ hm in
theorem ADt{f:Nat}(hf:ATr P f fn c){J:Nat→Nat→St→Option c.outs.V}(hJ:∀code,fn.body=some code→AAF C c fn code J)
  (hg:∀v u,c.g v=some u→ ∃n,∀ω,DP C c fn (J n) ω v=some u):XG P f c:=by
 refine⟨hf.con,hf.call,fun E w v args u II hB hS hgv=> ?_⟩;obtain⟨n,hn⟩:=hg v u hgv;cases hb:fn.body with
 |none=>
  have:=hn [];simp only[DP,hb]at this;cases this
 |some code=>
  simp only[DP,hb]at hn;refine calls_of_wp hf.at_ hb ?_
  have hp:cT (bodyPost P fn (AQQ c E w u)):=fun ch a w' hq=>by
   obtain⟨_,x,E',hx,_⟩:=hq;cases hx
  have lI:Good E w fn.ntmps c.ins.Gu.length u (fun _=>qk C.T c fn.results.toList) (fun _ _ _=>none) (fun _=>qk C.T c fn.results.toList) (bodyPost P fn (AQQ c E w u)):=
   ⟨fun E' σ a w' h e=>rp hT h (e []),fun id E' σ a w' h e=>(by cases e []),fun E' σ a w' h e=>rp hT h (e [])⟩
  have Bz:Ok E w fn.ntmps c.ins.Gu.length E (c.ins.st fn.ntmps v) { tmps:=args++Array.replicate (fn.ntmps-args.size) undef,defers:=[] } w:=by
   have htm:Cb (XR E w (Jj.mk id c.ins.Gu v.2)) (Gx.mk id c.ins.Dz v.1 (List.replicate fn.ntmps (.c .undef))) (args++Array.replicate (fn.ntmps-args.size) undef).toList:=by
    rw[Array.toList_append];refine gn (fA hS) (Cb.undef ?_);have:=hf.tmps;simp;omega
   refine⟨⟨rfl,htm,hB⟩,cw.refl E w,?_,by simp only[BX.st];rw[TM];exact APz _,fun _ _ _=>⟨rfl,rfl⟩⟩;simp only[BX.st];rw[Cb.len htm];have:=hf.tmps;simp;omega
  exact xT hT hΓ hm hp lI (AFV hT hΓ hm hb (hf.labels code hb) (hJ code hb) hp lI n) Bz hn
end
end Go.Fw
end
section
namespace Go.Fw
def Fp:List Ty→Ty
 |[]=> .unit
 |c::l=> .cons c (Fp l)
def vu(row:TypeId→Option (List Ty×Bool))(cells:TypeId→Nat):Nat→List Field→Option (List Ty)
 |_,[]=>some []
 |o,f::fs=>
  match row f.type with
  |some (l,_)=>if f.offset=o∧cells f.type=l.length then(vu row cells (o+l.length) fs).map (l++ ·)else none
  |none=>none
def j9:List Ty×Bool→Ty
 |(l,true)=>Fp l
 |([c],false)=>c
 |_=> .unit
def rowOf(P:Program):Nat→TypeId→Option (List Ty×Bool)
 |0,_=>none
 |n+1,t=>
  match P.underlying t with
  |some (.int k)=>some ([.int k],false)
  |some .bool=>some ([.bool],false)
  |some .string=>some ([.str],false)
  |some (.slice e)=>
   match rowOf P n e with
   |some q=>if P.cellsOf e=q.1.length∧0<q.1.length then some ([.sl (j9 q)],false)else none
   |none=>none
  |some (.struct fs)=>
   match vu (rowOf P n) P.cellsOf 0 fs.toList with
   |some l=>if P.cellsOf t=l.length then some (l,true)else none
   |none=>none
  |_=>none
def Vd:(t:Ty)→t.D→Prop
 | .int k,x=>(Lit.int k x).wf=true
 | .bool,_=>True
 | .str,x=>List.length x≤maxLen
 | .sl r,x=>List.length x≤maxLen∧ ∀y∈x,Vd r y
 | .unit,_=>True
 | .cons c r,x=>Vd c x.1∧Vd r x.2
theorem h_{α:Type}{p:Nat→α→Prop}:∀{n:Nat},(∀i,i<n→ ∃y,p i y)→ ∃x:List α,x.length=n∧ ∀(i:Nat) y,x[i]? =some y→p i y
 |0,_=>⟨[],rfl,fun i y h=>by simp at h⟩
 |n+1,h=>by
  obtain⟨x,h1,h2⟩:=h_ (n:=n) (p:=p) (fun i hi=>h i (by omega));obtain⟨y,hy⟩:=h n (by omega);refine⟨x++[y],by simp[h1],fun i z hz=> ?_⟩;grind
theorem sL{w:World}{B:Nat→Prop}:∀{l m:List Ty} {cs ds:List Value} {x:(Fp l).D} {y:(Fp m).D},Rd w B (Fp l) cs x→Rd w B (Fp m) ds y→Vd (Fp l) x→Vd (Fp m) y→
  ∃z:(Fp (l++m)).D,Rd w B (Fp (l++m)) (cs++ds) z∧Vd (Fp (l++m)) z
 |[],m,cs,ds,x,y,h,k,hx,hy=>by
  simp only[Fp,Rd]at h;subst h;exact⟨y,k,hy⟩
 |c::l,m,cs,ds,x,y,h,k,hx,hy=>by
  simp only[Fp,Rd]at h;obtain⟨v,r,rfl,h1,h2⟩:=h;obtain⟨z,z1,z2⟩:=sL h2 k hx.2 hy;exact⟨(x.1,z),by simp only[AVH,Fp,Rd];exact⟨v,r++ds,rfl,h1,z1⟩,hx.1,z2⟩
theorem ABT{P:Program}{n:Nat}{t:TypeId}{l:List Ty}(h:rowOf P n t=some (l,false)):∃c,l=[c]:=by
 cases n with
 |zero=>simp[rowOf]at h
 |succ n=>
  simp only[rowOf]at h;grind
theorem uK{w:World}{B:Nat→Prop}{P:Program}{n:Nat}{t:TypeId}{q:List Ty×Bool}(h:rowOf P n t=some q){cs:List Value}{x:(Fp q.1).D}(hx:Rd w B (Fp q.1) cs x)(hv:Vd (Fp q.1) x):
  (j9 q).n=q.1.length∧ ∃y:(j9 q).D,Rd w B (j9 q) cs y∧Vd (j9 q) y:=by
 obtain⟨l,b⟩:=q;cases b with
 |true=>
  refine⟨?_,x,hx,hv⟩;clear h hx hv x;simp only[j9]
  induction l with
  |nil=>rfl
  |cons c l ih=>simp[Fp,Ty.n,ih]
 |false=>
  obtain⟨c,rfl⟩:=ABT h;simp only[Fp,Rd]at hx;obtain⟨v,r,rfl,h1,h2⟩:=hx;subst h2;refine⟨?_,x.1,h1,hv.1⟩;have:=kU h1;grind[j9]
theorem ACd(a:Addr):a.add 0=a:=by rfl
theorem ACG{w:World}{a:Addr}{v:Value}(h:w.cell? a=some v):a.spot=none:=by
 unfold World.cell? at h;split at h
 all_goals simp_all
section
variable{H:Type} {enc:TypeId×Value→H} {P:Program} {w:World} {spare:Nat→Bool} {held:Bool}
theorem gk:∀(n:Nat) {t:TypeId} {q:List Ty×Bool},rowOf P n t=some q→ ∀{fuel:Nat} {cs:List Value} {x:DataW H×List MemPlace},DataW.trod enc P w 0 spare held fuel t cs=some x→
  ∃y:(Fp q.1).D,Rd w (fun b=>b<w.heap.size) (Fp q.1) cs y∧Vd (Fp q.1) y
 |0,t,q,h,_,_,_,_=>by simp[rowOf]at h
 |n+1,t,q,h,fuel,cs,x,hx=>by
  simp only[rowOf]at h;split at h
  ·rename_i k hu
   cases h;obtain⟨m,rfl,_,hw⟩:=DataW.trod_int hu hx;exact⟨(m,()),by simp[Fp,Rd],hw,trivial⟩
  ·rename_i hu
   cases h;obtain⟨b,rfl,_⟩:=DataW.trod_bool hu hx;exact⟨(b,()),by simp[Fp,Rd],trivial,trivial⟩
  ·rename_i hu
   cases h;obtain⟨s,rfl,_,hs⟩:=DataW.trod_string hu hx;refine⟨(s.data.toList,()),by simp[Fp,Rd],?_,trivial⟩
   show s.data.toList.length≤maxLen
   simp_all
  ·rename_i e hu
   split at h
   case h_2=>cases h
   rename_i q' hq';split at h
   case isFalse=>cases h
   rename_i AE1;cases h;rcases DataW.trod_slice hu hx with⟨rfl,_⟩|⟨a,len,cap,elems,rest,m,_,rfl,_,_,hlc,hcm,UJ,OV,_,_⟩
   ·refine⟨([],()),?_,⟨by simp,by simp⟩,trivial⟩
    simp only[Fp,Rd];simp_all
   ·have each:∀i,i<len→ ∃y:(j9 q').D,Vd (j9 q') y∧ ∃ds,ds.length=(j9 q').n∧(∀j,j<ds.length→w.cell? ((a.add (i*P.cellsOf e)).add j)=ds[j]?)∧Rd w (fun b=>b<w.heap.size) (j9 q') ds y:=by
     intro i hi;have hz:elems[i]? =some (elems[i]'(by omega)):=ALR _;have h1:=OV i hi;rw[hz,ALt]at h1;obtain⟨ds,hds,htr⟩:=h1;obtain⟨z,z1,z2⟩:=gk n hq' htr;obtain⟨_,c1,c2⟩:=World.cells?_some hds
     grind[uK]
    obtain⟨xs,x1,x2⟩:=h_ each;refine⟨(xs,()),?_,⟨by grind,fun y hy=> ?_⟩,trivial⟩
    ·simp only[Fp,Rd]
     refine⟨_,[],rfl,⟨_,cap,by rw[x1],by omega,?_⟩,rfl⟩;by_cases h0:len=0
     ·omega
     right
     obtain⟨y0,_,ds0,d0,d1,_⟩:=each 0 (by omega);have hn0:0<(j9 q').n:=by
      rw[d0.symm];have hz:elems[0]? =some (elems[0]'(by omega)):=ALR _;have h1:=OV 0 (by omega);rw[hz,ALt]at h1;obtain⟨ds,hds,htr⟩:=h1;obtain⟨z,z1,z2⟩:=gk n hq' htr;grind[uK]
     have hc0:=d1 0 (by omega);simp only[Nat.zero_mul,ACd]at hc0;have vB:w.cell? a=some (ds0[0]'(by omega)):=by simp_all
     have hsp:=ACG vB;obtain⟨b,o,s⟩:=a;simp only at hsp;subst hsp;refine⟨b,o,rfl,?_,fun i y hy=> ?_⟩
     ·grind[World.cell?,Array.getElem?_eq_some_iff]
     ·have hil:=(ALf.1 hy).1
      obtain⟨_,ds,e0,e1,e2⟩:=x2 i y hy;have hcn:P.cellsOf e=(j9 q').n:=by
       have hz:elems[i]? =some (elems[i]'(by omega)):=ALR _;have h1:=OV i (by omega);rw[hz,ALt]at h1;obtain⟨ds,hds,htr⟩:=h1;obtain⟨z,z1,z2⟩:=gk n hq' htr;grind[uK]
      refine⟨ds,e0,fun j v hj=> ?_,e2⟩;grind[List.getElem?_eq_some_iff,Addr.add_eq]
    ·obtain⟨i,hi,rfl⟩:=AQU hy
     exact(x2 i _ (ALR hi)).1
  ·rename_i fs hu
   split at h
   case h_2=>cases h
   rename_i l hl;split at h
   case isFalse=>cases h
   rename_i cu;cases h;obtain⟨xs,m,_,_,hlen,hxs,OV⟩:=DataW.trod_struct hu hx;have key:∀(fs:List Field) (o:Nat) (l:List Ty) (i0:Nat),vu (rowOf P n) P.cellsOf o fs=some l→cs.length=o+l.length→(∀(i:Nat) (f:Field),fs[i]? =some f→ ∃z,DataW.trod enc P w 0 spare held m f.type ((cs.drop f.offset).take (P.cellsOf f.type))=some z)→
     ∃y:(Fp l).D,Rd w (fun b=>b<w.heap.size) (Fp l) (cs.drop o) y∧Vd (Fp l) y:=by
    intro fs
    induction fs with
    |nil=>
     intro o l i0 hl hc _;simp only[vu,ALW]at hl;subst hl;refine⟨(),?_,trivial⟩;simp only[Fp,Rd];simp_all
    |cons f fs ih=>
     intro o l i0 hl hc OV;simp only[vu]at hl;split at hl
     case h_2=>cases hl
     rename_i l1 b1 hr;split at hl
     case isFalse=>cases hl
     rename_i hof;simp only[ALe]at hl;obtain⟨l2,xQ,rfl⟩:=hl;obtain⟨z,hz⟩:=OV 0 f rfl;obtain⟨y1,a1,a2⟩:=gk n hr hz;obtain⟨y2,b1,b2⟩:=ih (o+l1.length) l2 0 xQ (by grind) (fun i f hf=>OV (i+1) f (by simp_all));grind[sL,List.drop_drop,List.take_append_drop]
   have:=key fs.toList 0 l 0 hl (by omega) (fun i f hf=>by
    grind)
   simp_all
  simp_all
end
end Go.Fw
end
section
open Go.RowKit
namespace Go.Fw
def tc(W:World):Env:={ Ht:=fun _=>0,Hu:=fun _=> .nilFunc,T:=fun b=>b<W.heap.size,S:=fun b=>b<W.heap.size }
abbrev pA:BX:=⟨[(0,.c (.v .bool))],[]⟩
theorem AAr{P:Program}{f:Nat}{Dz:List (Nat×XP)}{g:BX.V ⟨Dz,[]⟩→Option pA.V}(hs:XG P f ⟨⟨Dz,[]⟩,pA,g⟩){W:World}{args:Array Value}(x:Gx.V Dz)(hlen:args.size=Dz.length)
  (hx:N7 (tc W) W [] id Dz x args.toList) (hg:g (x,())=some ((true,()),())):Calls P f args W fun e W' =>e= .returned (.bool true)∧Below W.heap.size W W':=by
 obtain⟨_,_,h⟩:=hs;refine(h (tc W) W (x,()) args _ hlen ⟨[],⟨rfl,fun k B F h=>by simp_all⟩,by simp,by simp,by simp,fun _ h=>h,fun _ h=>h⟩ hx hg).mono fun e W' hR=> ?_
 obtain⟨v,E',rfl,base,_,⟨⟨v',hv,hxr⟩,_⟩,_⟩:=hR;simp at hv;subst hv;have:v= .bool true:=by
  have h2:VR E' W' [] (.v .bool true) v:=hxr;exact RJ h2
 subst this;exact⟨rfl,base.os,base.tape,base.output,base.size,fun k hk=>base.heap k hk⟩
theorem AIY{W:World}{vw:List Bx}{s:Bool}{r:Ty}{v:Value}{y:List r.D}(h:Rd W (fun b=>b<W.heap.size) (.sl r) [v] y):XR (tc W) W vw (XP.mk id (.c (.sl s r)) y) v:=by
 show Rd W (if s then _ else _) (.sl r) [v] y
 cases s<;>exact h
end Go.Fw
end
section
namespace Go.Fw
def QA:List (Nat×QP)→Nat→Option QP
 |[],_=>none
 |(f,c)::l,g=>if f=g then some c else QA l g
def AKl(P:Program):List (Nat×QP)→Prop
 |[]=>True
 |q::l=>XG P q.1 q.2∧AKl P l
theorem oC{P:Program}:∀{l:List (Nat×QP)},AKl P l→fL P (QA l)
 |[],_=>fun f c e=>by cases e
 |(g,d)::l,h=>fun f c e=>by
  simp only[QA]at e;split at e
  ·rename_i hg
   cases e;subst hg;exact h.1
  ·exact oC h.2 f c e
theorem Wu{P:Program}{f:Nat}{fn:Func}(hf:P.funcs[f]? =some fn)(hn:(fn.name== "runtime.NumGoroutine")=false)(hb:fn.body.isNone=false)(args:Array Value)(w:World):
  (callFunc f args).run P w= .ok (.enter f args) w:=by
 have h1:fn.name≠ "runtime.NumGoroutine" :=by simp_all
 have h2:fn.body≠none:=by
  grind
 simp[callFunc,hf,h1,h2]
def iM(fn:Func)(c:QP):Bool:=
 !(
  fn.name== "runtime.NumGoroutine")&& !fn.body.isNone&&c.ok&&decide (c.ins.Dz.length≤fn.ntmps)&&(match fn.body with
  |some code=>decide (labels code).Nodup
  |none=>true)
theorem AYk{P:Program}{f:Nat}{fn:Func}{c:QP}(hf:P.funcs[f]? =some fn)(h:iM fn c=true):ATr P f fn c:=by
 simp only[iM,ALp,ASY,AMC]at h;obtain⟨⟨⟨⟨h1,h2⟩,h3⟩,h4⟩,h5⟩:=h;refine⟨hf,Wu hf h1 h2,h3,h4,fun code hc=> ?_⟩;simp_all
def gL(C:Z9)(c:QP)(fn:Func)(J:Nat→Nat→St→Option c.outs.V):List Nat→Prop
 |[]=>True
 | ℓ ::l=>(∃(s:BX) (F:Nat→s.V→Option c.outs.V),(∀n,J n ℓ =jump c.ins.Gu.length s (F n))∧(∀v,F 0 v=none)∧
  ∀n v,∀ω,G2 C c fn (J n) ℓ ω (s.st fn.ntmps v)=F (n+1) v)∧gL C c fn J l
theorem gL.ok{C:Z9}{c:QP}{fn:Func}{J:Nat→Nat→St→Option c.outs.V}:∀{l:ABI},gL C c fn J l→ ∀ ℓ ∈l,∃(s:BX) (F:Nat→s.V→Option c.outs.V),(∀n,J n ℓ =jump c.ins.Gu.length s (F n))∧(∀v,F 0 v=none)∧
  ∀n v y,F (n+1) v=some y→ ∀ω,G2 C c fn (J n) ℓ ω (s.st fn.ntmps v)=some y
 |[],_,ℓ,h=>by cases h
 |k::l,hl,ℓ,h=>by
  rcases AO3.1 h with rfl|h
  ·obtain⟨⟨s,F,h1,h2,h3⟩,_⟩:=hl
   exact⟨s,F,h1,h2,fun n v y e ω=>(h3 n v ω).trans e⟩
  ·exact gL.ok hl.2 ℓ h
def iH(fn:Func):ABI:=
 match fn.body with
 |some code=>labels code
 |none=>[]
def CO:List AFc→Nat→List Nat
 |[],_=>[]
 |(r,h)::l,q=>if r=q then h else CO l q
theorem AEZ{P:Program}{T:Jg}{l:List (Nat×QP)}{hint:Nat→List Nat}{f:Nat}{fn:Func}{c:QP}(hT:Ef P T)(hm:P.follows .mixedOrders=true)(hf:P.funcs[f]? =some fn)(hl:AKl P l)(hc:iM fn c=true)
  {J:Nat→Nat→St→Option c.outs.V} {L:ABI} (hL:iH fn=L) (hJ:gL ⟨T,QA l,hint⟩ c fn J L) (n:Nat) (he:∀ω v,DP ⟨T,QA l,hint⟩ c fn (J n) ω v=c.g v):XG P f c:=
 ADt (C:=⟨T,QA l,hint⟩) hT (oC hl) hm (AYk hf hc) (J:=J) (fun code hb ℓ hℓ =>gL.ok hJ ℓ (by
  grind[iH])) fun v u hg=>⟨n,fun ω=>(he ω v).trans hg⟩
end Go.Fw
end
section
namespace Go.M
abbrev Ds:Nat:=Go.Fw.Ds
def AX(x:Int):Int:=IntKind.wrap .i64 x
def br(κ:IntKind)(a b:Int):Int:=κ.wrap (BitVec.ofInt κ.bits a &&& BitVec.ofInt κ.bits b).toNat
def bOr(κ:IntKind)(a b:Int):Int:=κ.wrap (BitVec.ofInt κ.bits a ||| BitVec.ofInt κ.bits b).toNat
def AOI(κ:IntKind)(a b:Int):Int:=κ.wrap (BitVec.ofInt κ.bits a ^^^ BitVec.ofInt κ.bits b).toNat
theorem ph:∃n:Nat,2^64≤n:=⟨_,APz _⟩
noncomputable def Ae:Nat:=Classical.choose ph
theorem aF:2^64≤Ae:=Classical.choose_spec ph
def wj{α:Type}(p:Int)(v l:List α):Option (List α):=if 0≤p∧p≤(l.length:Int)∧l.length+v.length≤Ds then some (l.take p.toNat++v++l.drop p.toNat)else none
def ADx{α:Type}(p q:Int)(l:List α):Option (List α):=if 0≤p∧p≤q∧q≤(l.length:Int)then some (l.take p.toNat++l.drop q.toNat)else none
end Go.M
end
section
namespace Go.Fw
structure SP (P:Program) where
 f:Nat
 c:QP
 h:XG P f c
def SP.l{P:Program}:List (SP P)→List (Nat×QP)
 |[]=>[]
 |s::l=>(s.f,s.c)::SP.l l
theorem zk{P:Program}:∀l:List (SP P),AKl P (SP.l l)
 |[]=>trivial
 |s::l=>⟨s.h,zk l⟩
@[reducible] def AP.Cu (R:Type):AP→Type
 | .qP _ rs=>Yz rs→R
 | .v t=>t.D→R
 | .sl _ r=>List r.D→R
 | .mb r=>r.D→R
 | .jb _ _=>Nat×Nat→R
 |_=>R
def AP.un{R:Type}:(p:AP)→p.Cu R→p.V→R
 | .qP _ _,f,x=>f x
 | .v _,f,x=>f x
 | .sl _ _,f,x=>f x
 | .mb _,f,x=>f x
 | .jb _ _,f,x=>f x
 | .nil,f,_=>f
 | .ref _,f,_=>f
 | .ptr _ _,f,_=>f
 | .fn _ _,f,_=>f
 | .any,f,_=>f
@[reducible] def XW.Cu (R:Type):List AP→Type
 |[]=>R
 |p::l=>p.Cu (XW.Cu R l)
def XW.un{R:Type}:(l:List AP)→XW.Cu R l→XW.V l→R
 |[],f,_=>f
 |p::l,f,x=>XW.un l (p.un f x.1) x.2
@[reducible] def Xq.Cu (R:Type):List (AP ⊕ List AP)→Type
 |[]=>R
 | .inl p::l=>p.Cu (Xq.Cu R l)
 | .inr q::l=>XW.Cu (Xq.Cu R l) q
def Xq.un{R:Type}:(l:List (AP ⊕ List AP))→Xq.Cu R l→Xq.V l→R
 |[],f,_=>f
 | .inl p::l,f,x=>Xq.un l (p.un f x.1) x.2
 | .inr q::l,f,x=>Xq.un l (XW.un q f x.1) x.2
@[reducible] def XP.Cu (R:Type):XP→Type
 | .c p=>p.Cu R
 | .agg l=>XW.Cu R l
 | .row r=>r.D→R
 | .Mh l=>Xq.Cu R l
def XP.un{R:Type}:(p:XP)→p.Cu R→p.V→R
 | .c p,f,x=>p.un f x
 | .agg l,f,x=>XW.un l f x
 | .row _,f,x=>f x
 | .Mh l,f,x=>Xq.un l f x
@[reducible] def BP.Cu (R:Type):BP→Type
 | .mem l=>XW.Cu R l
 | .sl _ r=>List r.D→R
 | .gone=>R
def BP.un{R:Type}:(p:BP)→p.Cu R→p.V→R
 | .mem l,f,x=>XW.un l f x
 | .sl _ _,f,x=>f x
 | .gone,f,_=>f
@[reducible] def Gx.Cu (R:Type):List (Nat×XP)→Type
 |[]=>R
 |(_,p)::l=>p.Cu (Gx.Cu R l)
def Gx.un{R:Type}:(l:List (Nat×XP))→Gx.Cu R l→Gx.V l→R
 |[],f,_=>f
 |(_,p)::l,f,x=>Gx.un l (p.un f x.1) x.2
@[reducible] def Jj.Cu (R:Type):List BP→Type
 |[]=>R
 |p::l=>p.Cu (Jj.Cu R l)
def Jj.un{R:Type}:(l:List BP)→Jj.Cu R l→Jj.V l→R
 |[],f,_=>f
 |p::l,f,x=>Jj.un l (p.un f x.1) x.2
@[reducible] def BX.Cu (s:BX) (R:Type):Type:=Gx.Cu (Jj.Cu R s.Gu) s.Dz
def BX.un{R:Type}(s:BX)(f:s.Cu R)(v:s.V):R:=Jj.un s.Gu (Gx.un s.Dz f v.1) v.2
structure Lp (o:BX) where
 ℓ :Nat
 s:BX
 F:Nat→s.Cu (Option o.V)
def Lr{o:BX}(nb:Nat):List (Lp o)→Nat→Nat→St→Option o.V
 |[],_,_,_=>none
 |p::l,n,ℓ,σ=>if ℓ =p.ℓ then jump nb p.s (p.s.un (p.F n)) σ else Lr nb l n ℓ σ
inductive W_ (C:Z9) (c:QP) (fn:Func) (J:Nat→Nat→St→Option c.outs.V):List (Lp c.outs)→Prop
 |nil:W_ C c fn J []
 |cons {ℓ :Nat} {s:BX} {F:Nat→s.Cu (Option c.outs.V)} {l:List (Lp c.outs)} (h0:∀v,s.un (F 0) v=none) (h1:∀n v ω,G2 C c fn (J n) ℓ ω (s.st fn.ntmps v)=s.un (F (n+1)) v) (h:W_ C c fn J l):W_ C c fn J (⟨ℓ,s,F⟩::l)
def Lp.ls{o:BX}:List (Lp o)→List Nat
 |[]=>[]
 |p::l=>p.ℓ ::Lp.ls l
theorem AFW{o:BX}{nb:Nat}:∀{l:List (Lp o)} (n:Nat) {ℓ :Nat} (p:Lp o) (pre:List (Lp o)),ℓ =p.ℓ →(Lp.ls (pre++p::l)).Nodup→Lr nb (pre++p::l) n ℓ =jump nb p.s (p.s.un (p.F n))
 |l,n,ℓ,p,[],e,_=>by
  funext σ
  simp[Lr,e]
 |l,n,ℓ,p,q::pre,e,hn=>by
  funext σ
  have hq: ℓ ≠q.ℓ :=by
   intro h;simp only[AVH,Lp.ls,AWI]at hn;refine hn.1 ?_
   rw[←h,e];clear hn h e
   induction pre with
   |nil=>simp[Lp.ls]
   |cons a m ih=>simp[Lp.ls,ih]
  have:=congrFun (AFW (nb:=nb) (l:=l) n p pre e (by grind[Lp.ls,List.nodup_cons])) σ;simp only[AVH,Lr,ALT hq];omega
theorem W_.ok{C:Z9}{c:QP}{fn:Func}{nb:Nat}(hb:nb=c.ins.Gu.length){L:List (Lp c.outs)}(hn:(Lp.ls L).Nodup):∀{l pre:List (Lp c.outs)},L=pre++l→W_ C c fn (Lr nb L) l→gL C c fn (Lr nb L) (Lp.ls l)
 |[],_,_,_=>trivial
 |⟨ℓ,s,F⟩::l,pre,e,.cons h0 h1 h=>by
  refine⟨⟨s,fun n=>s.un (F n),fun n=> ?_,h0,fun n v ω=>h1 n v ω⟩,W_.ok hb hn (pre:=pre++[⟨ℓ,s,F⟩]) (by simp[e]) h⟩;subst hb;rw[e];exact AFW n ⟨ℓ,s,F⟩ pre rfl (by simp_all)
def mkP{P:Program}{T:Jg}(hT:Ef P T)(hm:P.follows .mixedOrders=true){f:Nat}{fn:Func}(hf:P.funcs[f]? =some fn)(i o:BX)(g:i.Cu (Option o.V))(l:List (SP P))(h:List AFc)(L:List (Lp o))(n:Nat)
  (hL:iH fn=Lp.ls L) (hd:decide (Lp.ls L).Nodup=true) (hc:iM fn ⟨i,o,i.un g⟩=true)
  (hJ:W_ ⟨T,QA (SP.l l),CO h⟩ ⟨i,o,i.un g⟩ fn (Lr i.Gu.length L) L)
  (he:∀ω v,DP ⟨T,QA (SP.l l),CO h⟩ ⟨i,o,i.un g⟩ fn (Lr i.Gu.length L n) ω v=i.un g v):SP P:=
 ⟨f,⟨i,o,i.un g⟩,AEZ (l:=SP.l l) hT hm hf (zk l) hc (J:=Lr i.Gu.length L) (L:=Lp.ls L) hL (W_.ok rfl (by simp_all) (pre:=[]) rfl hJ) n he⟩
theorem AF{Q:List Bool→Prop}(a:Q [])(b:∀ω,Q (false::ω))(d:∀ω,Q (true::ω)):∀ω,Q ω
 |[]=>a
 |false::ω=>b ω
 |true::ω=>d ω
end Go.Fw
end
section
namespace Go.Fw
open Go.Proofs Go.Shelf Go.RowKit Go.Lib
structure dL (P:Program) (ρ:Ren) (nm:String) (fv:Func):Prop where
 mixed:P.follows .mixedOrders=true
 f22:P.funcs[ρ.f 22]? =some { Body2.n22 ρ with name:=nm }
 n22:(nm== "runtime.NumGoroutine")=false
 f29:P.funcs[ρ.f 29]? =some fv
 n29:(fv.name== "runtime.NumGoroutine")=false
 b29:fv.body.isNone=true
 e29:Extern.findNext fv=none
 x29:Extern.find fv=some (Extern.SlicesOverlaps.overlaps #[(ρ.t 24),(ρ.t 24)] #[(ρ.t 4)])
 t0:P.underlying (ρ.t 0)=some (TypeDesc.tuple #[])
 a0:∀w,(isAgg (ρ.t 0)).run P w= .ok false w
 z0:∀w,(Go.sizeOf (ρ.t 0)).run P w= .ok 1 w
 v0:∀w,(zeroValue (ρ.t 0)).run P w= .ok (Value.tuple #[]) w
 t3:P.underlying (ρ.t 3)=some (TypeDesc.int IntKind.i64)
 a3:∀w,(isAgg (ρ.t 3)).run P w= .ok false w
 z3:∀w,(Go.sizeOf (ρ.t 3)).run P w= .ok 1 w
 v3:∀w,(zeroValue (ρ.t 3)).run P w= .ok (Value.int IntKind.i64 0) w
 t4:P.underlying (ρ.t 4)=some (TypeDesc.bool)
 a4:∀w,(isAgg (ρ.t 4)).run P w= .ok false w
 z4:∀w,(Go.sizeOf (ρ.t 4)).run P w= .ok 1 w
 v4:∀w,(zeroValue (ρ.t 4)).run P w= .ok (Value.bool false) w
 t24:P.underlying (ρ.t 24)=some (TypeDesc.slice (ρ.t 9))
 a24:∀w,(isAgg (ρ.t 24)).run P w= .ok false w
 z24:∀w,(Go.sizeOf (ρ.t 24)).run P w= .ok 1 w
 v24:∀w,(zeroValue (ρ.t 24)).run P w= .ok (Value.slice none 0 0) w
section
variable{P:Program} {ρ:Ren} {nm:String} {fv:Func}
theorem aY{w:World}{dT sT ty elem:TypeId}{i0:TypeInfo}{b o AWi Aap Us iZ n:Nat}{a:Option Addr}{cs:List Value}(hu:P.underlying dT=some (.slice elem))(hi:P.info? elem=some i0)(hn:n=Nat.min Us AWi)
  (ANM:∀W:World,W=w→(Builtin.firstCells i0.size n (.slice a Us iZ)).run P W= .ok cs.toArray W) (qB:w.there b o cs.length) (h1:∀v∈cs,v.oneCell' =true):
  (Builtin.copy_ #[dT,sT] ty #[.slice (some ⟨b,o,none⟩) AWi Aap,.slice a Us iZ]).run P w= .ok (goInt n) (w.setCells b o cs):=by
 have cz:=run_storeCells_cells (P:=P) b o cs 0 w (by simpa using fun j hj=>(qB j hj).1) (by simpa using fun j hj=>(qB j hj).2) h1;rw[ATU]at cz;have:=ANM w rfl;simp[Builtin.copy_,run_underlying hu,Builtin.lenOf,sizeOf,typeInfo,hi,←hn,this,cz]
set_option maxHeartbeats 4000000 in
set_option maxRecDepth 100000 in
theorem ADH(L:dL P ρ nm fv){k:Nat}(z9:∀w,(Go.sizeOf (ρ.t 9)).run P w= .ok k w)(ad:Option Addr)(n c i:Nat)(va:Option Addr)(vc:Nat)(w:World)(hi:i≤n)(hnc:n≤c):
  Calls P (ρ.f 22) #[.slice ad n c,.int .i64 i,.slice va 0 vc] w fun e w' =>e= .returned (.slice ad n c)∧w' =w:=by
 have t0:=L.t0;have a0:=L.a0;have z0:=L.z0;have v0:=L.v0;have t3:=L.t3;have a3:=L.a3;have z3:=L.z3;have v3:=L.v3;have t4:=L.t4;have a4:=L.a4;have z4:=L.z4;have v4:=L.v4;have t24:=L.t24;have a24:=L.a24;have z24:=L.z24;have v24:=L.v24;have u0:=run_underlying L.t0;have u3:=run_underlying L.t3;have u4:=run_underlying L.t4;have XY:=run_underlying L.t24;have mixed:=L.mixed
 go_enter L.f22,Body2.n22_ntmps ρ
 cases ad with
 |none=>
  go_wp2
  go_ret
  exact⟨rfl,rfl⟩
 |some a=>
  obtain⟨ab,ao,asp⟩:=a
  go_wp2
  all_goals (go_ret;exact⟨rfl,rfl⟩)
theorem jT{w:World}(tS tR e:TypeId)(ht:P.underlying tS=some (.slice e))(size:Nat)(hz:∀w,(Go.sizeOf e).run P w= .ok size w)
  (a b:Addr) (la ca lb cb:Nat) (bM:a.block≠b.block) (tA tB:TypeId) (kA kB:Nat)
  (hsa:w.shape? a.block=some (tA,kA)) (hsb:w.shape? b.block=some (tB,kB)) (hkA:kA≠0)
  (hfb:w.frozen? b=false) (hfe:w.frozen? { block:=b.block,off:=kB }=false):
  (Extern.SlicesOverlaps.overlaps #[tS,tS] #[tR] #[.slice (some a) la ca,.slice (some b) lb cb]).run P w= .ok (.bool false) w:=by
 have qQ:(a.block !=b.block)=true:=by simp_all
 have Aag:(a.block==b.block)=false:=by simp_all
 change Sem.run P (α:=Value) (do
  let some t:=(#[tS,tS]:Array TypeId)[0]?|stuck "slices.overlaps: no parameter types"
  let .slice elem←underlying t|stuck "slices.overlaps: slice type expected"
  let size←sizeOf elem
  match(some a:Option Addr),(some b:Option Addr)with
  |some a,some b=>
   if la=0∨lb=0∨size=0 then pure (Value.bool false)
   else if a.block !=b.block&&(←frozen a)&&(←frozen b)then unsupported .addressObserved
   else do
    if a.block !=b.block then do
     noView a;noView b
     if←mayBeOne a b then return Value.bool ((←choose (.extern "sameAddr.stringBytes" 2))==1)
    pure (Value.bool (a.block==b.block&&a.off<b.off+lb*size&&b.off<a.off+la*size))
  |_,_=>pure (Value.bool false)) w=_
 by_cases h0:la=0∨lb=0∨size=0
 ·simp[run_underlying ht,hz,h0]
 ·cases kA with
  |zero=>omega
  |succ kA=>
   cases hfa:w.frozen? a<;>cases hfae:w.frozen? { block:=a.block,off:=kA+1 }<;>
    simp[run_underlying ht,hz,h0,qQ,Aag,frozen,noView,viewAt,mayBeOne,stringish,shape,Sem.run,hsa,hsb,hfb,hfe,hfa,hfae]
set_option maxHeartbeats 4000000 in
set_option maxRecDepth 100000 in
theorem ABx(L:dL P ρ nm fv){i0:TypeInfo}(uf:P.info? (ρ.t 9)=some i0)(hs0:0<i0.size)(b off n c i:Nat)(va:Addr)(m vc:Nat)(cs vs:List Value)(w:World)(hi:i<n)(hm:0<m)(Sg:n+m≤c)(Vx:n+m≤Ds)(hvb:va.block≠b)
  (cu:cs.length=n*i0.size) (hvl:vs.length=m*i0.size) (vB:Bb w b off cs) (qB:w.there b off ((n+m)*i0.size))
  (VI:∀W:World,W.heap[va.block]? =w.heap[va.block]?→(Builtin.firstCells i0.size m (.slice (some va) m vc)).run P W= .ok vs.toArray W) (h1c:∀v∈cs,v.oneCell' =true) (h1v:∀v∈vs,v.oneCell' =true)
  (tA tB:TypeId) (kA kB:Nat) (hsa:w.shape? va.block=some (tA,kA)) (hsb:w.shape? b=some (tB,kB)) (hkA:kA≠0) (hfe:w.frozen? ⟨b,kB,none⟩=false):
  Calls P (ρ.f 22) #[.slice (some ⟨b,off,none⟩) n c,.int .i64 i,.slice (some va) m vc] w fun e w' =>
   e= .returned (.slice (some ⟨b,off,none⟩) (n+m) c)∧ ∃W:World,W.heap=w.heap∧Grown w W∧w' =(W.setCells b (off+(i+m)*i0.size) (cs.drop (i*i0.size))).setCells b (off+i*i0.size) vs:=by
 have t0:=L.t0;have a0:=L.a0;have z0:=L.z0;have v0:=L.v0;have t3:=L.t3;have a3:=L.a3;have z3:=L.z3;have v3:=L.v3;have t4:=L.t4;have a4:=L.a4;have z4:=L.z4;have v4:=L.v4;have t24:=L.t24;have a24:=L.a24;have z24:=L.z24;have v24:=L.v24;have u0:=run_underlying L.t0;have u3:=run_underlying L.t3;have u4:=run_underlying L.t4;have XY:=run_underlying L.t24;have z9:∀w,(Go.sizeOf (ρ.t 9)).run P w= .ok i0.size w:=fun w=>by simp[sizeOf,typeInfo,uf]
 have mixed:=L.mixed;have AEx:=Vx;simp only[Ds]at AEx;have hz1: ¬((m:Int)=0):=by omega
 have hz2: ¬((i:Int)=(n:Int)):=by omega
 generalize hk:i0.size=k at*
 have hmul:(i+m)*k≤(n+m)*k:=AOk _ (by omega);have AEQ:i*k≤n*k:=AOk _ (by omega);have Jq:(i+m)*k<(n+m)*k:=Nat.mul_lt_mul_of_pos_right (by omega) hs0;have rb:(n+m)*k=n*k+m*k:=AS5 ..;have him:(i+m)*k=i*k+m*k:=AS5 ..;have hov:∀lb cb,(callFunc (ρ.f 29) #[.slice (some va) m vc,.slice (some ⟨b,off+(i+m)*k,none⟩) lb cb]).run P w= .ok (.value (.bool false)) w:=fun lb cb=>by
  rw[run_callFunc_extern L.f29 L.n29 L.b29 L.e29 L.x29,
   jT (ρ.t 24) (ρ.t 4) (ρ.t 9) L.t24 k z9 va ⟨b,off+(i+m)*k,none⟩ m vc lb cb hvb tA tB kA kB hsa hsb hkA (qB _ Jq).2 hfe]
  rfl
 have hdl:(cs.drop (i*k)).length=(n-i)*k:=by rw[AWr,cu,AU2]
 have hw1:IntKind.i64.wrap ((i:Int)+(m:Int))=(i:Int)+(m:Int):=by rw[IntKind.wrap_i64];omega
 have hb1:(0:Int)≤(i:Int)+(m:Int):=by omega
 have O9:i≤n:=by omega
 have htn:((i:Int)+(m:Int)).toNat=i+m:=by omega
 have hb2: ¬(c=i+m):=by omega
 have hb3:(i:Int)≤(n:Int)+(m:Int):=by omega
 have hb4: ¬(c=i):=by omega
 have AUj:∀ty dc sc,(Builtin.copy_ #[(ρ.t 24),(ρ.t 24)] ty #[.slice (some ⟨b,off+(i+m)*k,none⟩) (n+m-(i+m)) dc,.slice (some ⟨b,off+i*k,none⟩) (n+m-i) sc]).run P w.drew= .ok (goInt (n-i:Nat)) (w.drew.setCells b (off+(i+m)*k) (cs.drop (i*k))):=fun ty dc sc=>
  aY (n:=n-i) L.t24 uf (by simp only[Nat.min_def];split<;>omega) (fun W hW=>by
   subst hW;simp only[Builtin.firstCells,hk];have hl:Bb w.drew b (off+i*k) (cs.drop (i*k)):=fun j v hj=>by
    rw[AVR]at hj;have:=vB _ v hj
    rwa [←AS9]at this
   rw[←hdl];exact Lk hl) (fun j hj=>by
    rw[hdl]at hj;have:(i+m)*k+j<(n+m)*k:=by
     rw[rb,him];have:(n-i)*k=n*k-i*k:=AU2 ..;omega
    have:=qB _ this;rw[←AS9]at this;exact this) (fun v hv=>h1c v (AUw hv))
 obtain⟨W1,hW1⟩:∃W1,W1=w.drew.setCells b (off+(i+m)*k) (cs.drop (i*k)):=⟨_,rfl⟩;have AXf:W1.heap[va.block]? =w.heap[va.block]?:=by rw[hW1];exact DT _ _ _ _ _ hvb
 have APp:W1.there b (off+i*k) vs.length:=fun j hj=>by
  rw[hvl]at hj;have h0:=qB (i*k+j) (by omega);rw[←AS9]at h0;rw[hW1];refine⟨?_,?_⟩
  ·refine isSome_setCells b _ _ _ (fun t ht=> ?_) _ h0.1
   rw[hdl]at ht;have h2:(i+m)*k+t<(n+m)*k:=by
    rw[rb,him];have:(n-i)*k=n*k-i*k:=AU2 ..;omega
   have:=(qB _ h2).1;rw[←AS9]at this;exact this
  ·rw[World.frozen?_setCells]
   exact h0.2
 have AYT:∀(W:World),(∀x,W.cell? x=W1.cell? x)→(∀x,W.frozen? x=W1.frozen? x)→W.heap=W1.heap→ ∀ty dc,(Builtin.copy_ #[(ρ.t 24),(ρ.t 24)] ty #[.slice (some ⟨b,off+i*k,none⟩) (n+m-i) dc,.slice (some va) m vc]).run P W= .ok (goInt m) (W.setCells b (off+i*k) vs):=fun W hWc hWf sV ty dc=>
  aY (n:=m) L.t24 uf (by simp only[Nat.min_def];split<;>omega) (fun V hV=>by subst hV;rw[hk];exact VI _ (by rw[sV];exact AXf)) (fun j hj=>⟨by rw[hWc];exact(APp j hj).1,by rw[hWf];exact(APp j hj).2⟩) h1v
 rw[←hW1]at AUj;obtain⟨vab,vao,vas⟩:=va;clear hmul AEQ Jq rb him qB APp vB hdl
 go_enter L.f22,Body2.n22_ntmps ρ
 go_wp2_with (simp only[hov])
 go_region_law_o (refine step_copy_runI rfl _ _ (ρ.t 24) (ρ.t 24) rfl _ _ (by simp[Act.eval,Act.put]) (by simp[Act.eval,Act.put]) (AUj _ _ _) ?_)
 go_wp2_with (at_builtin;refine wpList_copy_runI _ rfl _ _ (ρ.t 24) (ρ.t 24) rfl _ _ rfl rfl (AYT _ (fun _=>rfl) (fun _=>rfl) rfl _ _) ?_)
 go_ret
 first|exact⟨rfl,_,rfl,⟨rfl,rfl,rfl,APz _⟩,rfl⟩|exact⟨rfl,w.drew,rfl,⟨rfl,rfl,rfl,APz _⟩,by first|rfl|rw[hW1]⟩
set_option maxHeartbeats 4000000 in
set_option maxRecDepth 100000 in
theorem AEI(L:dL P ρ nm fv){i0:TypeInfo}(uf:P.info? (ρ.t 9)=some i0)(b off n c:Nat)(va:Addr)(m vc:Nat)(vs:List Value)(w:World)(hm:0<m)(Sg:n+m≤c)
  (qB:w.there b (off+n*i0.size) vs.length) (hn:ku P w i0.size m (.slice (some va) m vc) vs) (h1v:∀v∈vs,v.oneCell' =true):
  Calls P (ρ.f 22) #[.slice (some ⟨b,off,none⟩) n c,.int .i64 n,.slice (some va) m vc] w fun e w' =>
   e= .returned (.slice (some ⟨b,off,none⟩) (n+m) c)∧w' =w.setCells b (off+n*i0.size) vs:=by
 have t0:=L.t0;have a0:=L.a0;have z0:=L.z0;have v0:=L.v0;have t3:=L.t3;have a3:=L.a3;have z3:=L.z3;have v3:=L.v3;have t4:=L.t4;have a4:=L.a4;have z4:=L.z4;have v4:=L.v4;have t24:=L.t24;have a24:=L.a24;have z24:=L.z24;have v24:=L.v24;have u0:=run_underlying L.t0;have u3:=run_underlying L.t3;have u4:=run_underlying L.t4;have XY:=run_underlying L.t24;have z9:∀w,(Go.sizeOf (ρ.t 9)).run P w= .ok i0.size w:=fun w=>by simp[sizeOf,typeInfo,uf]
 have mixed:=L.mixed;have hz1: ¬((m:Int)=0):=by omega
 have jQ:∀ty,(Builtin.append_ #[(ρ.t 24),(ρ.t 24)] ty #[.slice (some ⟨b,off,none⟩) n c,.slice (some va) m vc]).run P w=_:=fun ty=>
  eQ (ts:= #[(ρ.t 24),(ρ.t 24)]) (ty:=ty) rfl rfl L.t24 (.inl ⟨_,L.t24⟩) uf rfl hn Sg qB h1v
 clear qB hn
 generalize hk:i0.size=k at*
 obtain⟨vab,vao,vas⟩:=va
 go_enter L.f22,Body2.n22_ntmps ρ
 go_wp2_with (at_builtin;refine Lib.wpList_append_run _ rfl _ _ (ρ.t 24) (ρ.t 24) rfl _ _ rfl rfl _ _ (jQ _) ?_)
 go_ret
 exact⟨rfl,rfl⟩
set_option maxHeartbeats 4000000 in
set_option maxRecDepth 100000 in
theorem AD0(L:dL P ρ nm fv){i0:TypeInfo}{z:Value}(uf:P.info? (ρ.t 9)=some i0)(hz:i0.zero=some z)(hby:i0.bytes≤512)(ad:Option Addr)(n c:Nat)(va:Addr)(m vc:Nat)(cs vs:List Value)(w:World)(hm:0<m)(hnc:n≤c)(Sg:c<n+m)(Vx:n+m≤Ds)
  (ho:∀w',w'.heap=w.heap→(Builtin.firstCells i0.size n (.slice ad n c)).run P w' = .ok cs.toArray w') (hn:ku P w i0.size m (.slice (some va) m vc) vs):
  Calls P (ρ.f 22) #[.slice ad n c,.int .i64 n,.slice (some va) m vc] w fun e w' =>
   e= .returned (.slice (some ⟨w.heap.size,0,none⟩) (n+m) (grownCap w (n+m) c (ρ.t 9)))∧
   w' =w.drew.alloc (.cells (cs.toArray++vs.toArray++Builtin.zeroCells z.cells (grownCap w (n+m) c (ρ.t 9)-(n+m))) (ρ.t 9)):=by
 have t0:=L.t0;have a0:=L.a0;have z0:=L.z0;have v0:=L.v0;have t3:=L.t3;have a3:=L.a3;have z3:=L.z3;have v3:=L.v3;have t4:=L.t4;have a4:=L.a4;have z4:=L.z4;have v4:=L.v4;have t24:=L.t24;have a24:=L.a24;have z24:=L.z24;have v24:=L.v24;have u0:=run_underlying L.t0;have u3:=run_underlying L.t3;have u4:=run_underlying L.t4;have XY:=run_underlying L.t24;have z9:∀w,(Go.sizeOf (ρ.t 9)).run P w= .ok i0.size w:=fun w=>by simp[sizeOf,typeInfo,uf]
 have mixed:=L.mixed;have hz1: ¬((m:Int)=0):=by omega
 have jQ:∀ty,(Builtin.append_ #[(ρ.t 24),(ρ.t 24)] ty #[.slice ad n c,.slice (some va) m vc]).run P w=_:=fun ty=>
  bW (ts:= #[(ρ.t 24),(ρ.t 24)]) (ty:=ty) rfl rfl L.t24 (.inl ⟨_,L.t24⟩) uf hz rfl ho hn Sg Vx hby
 clear hn ho
 obtain⟨W1,hW1⟩:∃W1,W1=w.drew.alloc (.cells (cs.toArray++vs.toArray++Builtin.zeroCells z.cells (grownCap w (n+m) c (ρ.t 9)-(n+m))) (ρ.t 9)):=⟨_,rfl⟩;rw[←hW1]at jQ⊢;clear hW1
 generalize hk:i0.size=k at*
 obtain⟨vab,vao,vas⟩:=va
 go_enter L.f22,Body2.n22_ntmps ρ
 cases ad with
 |none=>
  go_wp2_with (at_builtin;refine Lib.wpList_append_run _ rfl _ _ (ρ.t 24) (ρ.t 24) rfl _ _ rfl rfl _ _ (jQ _) ?_)
  all_goals (go_ret;exact⟨rfl,rfl⟩)
 |some a=>
  obtain⟨ab,ao,asp⟩:=a
  go_wp2_with (at_builtin;refine Lib.wpList_append_run _ rfl _ _ (ρ.t 24) (ρ.t 24) rfl _ _ rfl rfl _ _ (jQ _) ?_)
  all_goals (go_ret;exact⟨rfl,rfl⟩)
set_option maxHeartbeats 4000000 in
set_option maxRecDepth 100000 in
theorem AIC(L:dL P ρ nm fv){i0:TypeInfo}{z:Value}(uf:P.info? (ρ.t 9)=some i0)(hz:i0.zero=some z)(hzl:z.cells.size=i0.size)(hs0:0<i0.size)(hby:i0.bytes≤512)(b off n c i:Nat)(va:Addr)(m vc:Nat)(cs vs:List Value)(w:World)(hi:i<n)(hm:0<m)(hnc:n≤c)(Sg:c<n+m)(Vx:n+m≤Ds)
  (cu:cs.length=n*i0.size) (hvl:vs.length=m*i0.size) (hbw:b<w.heap.size) (vB:Bb w b off cs) (hvw:va.block<w.heap.size)
  (VI:∀W:World,W.heap[va.block]? =w.heap[va.block]?→(Builtin.firstCells i0.size m (.slice (some va) m vc)).run P W= .ok vs.toArray W) (h1c:∀v∈cs,v.oneCell' =true) (h1v:∀v∈vs,v.oneCell' =true):
  Calls P (ρ.f 22) #[.slice (some ⟨b,off,none⟩) n c,.int .i64 i,.slice (some va) m vc] w fun e w' =>
   e= .returned (.slice (some ⟨w.heap.size,0,none⟩) (n+m) (grownCap w (n+m) c (ρ.t 9)))∧
   ∃W:World,W.heap=w.heap.push (.cells ((cs.take (i*i0.size)).toArray++Builtin.zeroCells z.cells (n+m-i)++Builtin.zeroCells z.cells (grownCap w (n+m) c (ρ.t 9)-(n+m))) (ρ.t 9))∧W.os=w.os∧W.tape=w.tape∧W.output=w.output∧
    w' =(W.setCells w.heap.size (i*i0.size) vs).setCells w.heap.size ((i+m)*i0.size) (cs.drop (i*i0.size)):=by
 have t0:=L.t0;have a0:=L.a0;have z0:=L.z0;have v0:=L.v0;have t3:=L.t3;have a3:=L.a3;have z3:=L.z3;have v3:=L.v3;have t4:=L.t4;have a4:=L.a4;have z4:=L.z4;have v4:=L.v4;have t24:=L.t24;have a24:=L.a24;have z24:=L.z24;have v24:=L.v24;have u0:=run_underlying L.t0;have u3:=run_underlying L.t3;have u4:=run_underlying L.t4;have XY:=run_underlying L.t24;have z9:∀w,(Go.sizeOf (ρ.t 9)).run P w= .ok i0.size w:=fun w=>by simp[sizeOf,typeInfo,uf]
 have mixed:=L.mixed;have AEx:=Vx;simp only[Ds]at AEx;have hz1: ¬((m:Int)=0):=by omega
 have hz2: ¬((i:Int)=(n:Int)):=by omega
 have hz3:(c:Int)<(n:Int)+(m:Int):=by omega
 have hkk:(n:Int)+(m:Int)-(i:Int)=((n+m-i:Nat):Int):=by omega
 have hik:i+(n+m-i)=n+m:=by omega
 have AEQ:i*i0.size≤n*i0.size:=AOk _ (by omega);have rb:(n+m)*i0.size=n*i0.size+m*i0.size:=AS5 ..;have him:(i+m)*i0.size=i*i0.size+m*i0.size:=AS5 ..;have hni:(n-i)*i0.size=n*i0.size-i*i0.size:=AU2 ..;have hold:(Builtin.firstCells i0.size i (.slice (some ⟨b,off,none⟩) i c)).run P w.drew= .ok (cs.take (i*i0.size)).toArray w.drew:=by
  simp only[Builtin.firstCells];have hl:(cs.take (i*i0.size)).length=i*i0.size:=by rw[AVO];omega
  have hca:Bb w.drew b off (cs.take (i*i0.size)):=fun j v hj=>by
   rw[AVk]at hj;split at hj
   ·exact vB j v hj
   ·cases hj
  conv=>lhs;rw[←hl]
  exact Lk hca
 have ATH:(n+m)*i0.bytes≤140737488355328:=by
  have:(n+m)*i0.bytes≤Ds*512:=Nat.mul_le_mul Vx hby;simp only[Ds]at this;omega
 have ALb:(n+m-i)*i0.bytes≤281474976710656:=by
  have:(n+m-i)*i0.bytes≤(n+m)*i0.bytes:=AOk _ (by omega);omega
 have hrz:∀ty,(Builtin.append_ #[(ρ.t 24),(ρ.t 3)] ty #[.slice (some ⟨b,off,none⟩) i c,.int .i64 ((n:Int)+(m:Int)-(i:Int))]).run P w=
   .ok (.slice (some ⟨w.heap.size,0,none⟩) (n+m) (grownCap w (n+m) c (ρ.t 9))) (w.drew.alloc (.cells ((cs.take (i*i0.size)).toArray++Builtin.zeroCells z.cells (n+m-i)++Builtin.zeroCells z.cells (grownCap w (n+m) c (ρ.t 9)-(n+m))) (ρ.t 9))):=fun ty=>by
  have h:=Lib.run_append_grow_zeros w (ρ.t 24) (ρ.t 3) ty (ρ.t 9) i0 z .i64 .i64 L.t24 L.t3 uf hz (some ⟨b,off,none⟩) i c (cs.take (i*i0.size)) hold (n+m-i) (by omega) hs0 (by omega) (by omega) ALb (by rw[hik];exact growslice_fits Sg ATH);rw[hik]at h;rw[hkk];exact h
 have hGn:n+m≤grownCap w (n+m) c (ρ.t 9):=grownCap_ge w _ _ _;have AXe:grownCap w (n+m) c (ρ.t 9)≤9223372036854775807:=by
  have:=grownCap_le_maxLen w (n+m) c (ρ.t 9) (by unfold maxLen;omega);unfold maxLen at this;omega
 obtain⟨G,hG⟩:∃G,G=grownCap w (n+m) c (ρ.t 9):=⟨_,rfl⟩;rw[←hG]at hrz hGn AXe⊢;obtain⟨ROW,AAx⟩:∃ROW:Array Value,ROW=(cs.take (i*i0.size)).toArray++Builtin.zeroCells z.cells (n+m-i)++Builtin.zeroCells z.cells (G-(n+m)):=⟨_,rfl⟩;rw[←AAx]at hrz⊢;have hRl:(n+m)*i0.size≤ROW.size:=by
  rw[AAx];simp only[AWz,AW0,size_zeroCells,hzl,AVO];have e1:(n+m-i)*i0.size=(n+m)*i0.size-i*i0.size:=AU2 ..;omega
 obtain⟨W1,hW1⟩:∃W1,W1=w.drew.alloc (.cells ROW (ρ.t 9)):=⟨_,rfl⟩;rw[←hW1]at hrz;have ATa:W1.heap[w.heap.size]? =some (.cells ROW (ρ.t 9)):=by
  rw[hW1]
  show(w.heap.push (.cells ROW (ρ.t 9)))[w.heap.size]? =_
  simp
 have AEu:∀x,x<w.heap.size→W1.heap[x]? =w.heap[x]?:=fun x hx=>by rw[hW1];exact Im hx
 have hN:∀o l,o+l≤(n+m)*i0.size→W1.there w.heap.size o l:=fun o l h=>T8 (k:=1) ATa (by omega) (WB _)
 have hdl:(cs.drop (i*i0.size)).length=(n-i)*i0.size:=by rw[AWr,cu,hni]
 have AYi:∀(W:World),(∀x,W.cell? x=W1.cell? x)→(∀x,W.frozen? x=W1.frozen? x)→W.heap=W1.heap→ ∀ty dc,(Builtin.copy_ #[(ρ.t 24),(ρ.t 24)] ty #[.slice (some ⟨w.heap.size,i*i0.size,none⟩) (n+m-i) dc,.slice (some va) m vc]).run P W= .ok (goInt m) (W.setCells w.heap.size (i*i0.size) vs):=fun W hWc hWf sV ty dc=>
  aY (n:=m) L.t24 uf (by simp only[Nat.min_def];split<;>omega) (fun V hV=>by subst hV;exact VI _ (by rw[sV];exact AEu _ hvw)) (fun j hj=>by
   have:=hN (i*i0.size) (m*i0.size) (by omega) j (by omega);exact⟨by rw[hWc];exact this.1,by rw[hWf];exact this.2⟩) h1v
 have AUk:∀(W:World),(∀x,W.cell? x=(W1.setCells w.heap.size (i*i0.size) vs).cell? x)→(∀x,W.frozen? x=(W1.setCells w.heap.size (i*i0.size) vs).frozen? x)→W.heap=(W1.setCells w.heap.size (i*i0.size) vs).heap→ ∀ty dc sc,(Builtin.copy_ #[(ρ.t 24),(ρ.t 24)] ty #[.slice (some ⟨w.heap.size,(i+m)*i0.size,none⟩) (n+m-(i+m)) dc,.slice (some ⟨b,off+i*i0.size,none⟩) (n-i) sc]).run P W= .ok (goInt (n-i:Nat)) (W.setCells w.heap.size ((i+m)*i0.size) (cs.drop (i*i0.size))):=fun W hWc hWf sV ty dc sc=>
  aY (n:=n-i) L.t24 uf (by simp only[Nat.min_def];split<;>omega) (fun V hV=>by
   subst hV;simp only[Builtin.firstCells];rw[←hdl];refine Lk fun j v hj=> ?_
   rw[AVR]at hj;have h3:=vB _ v hj;rw[←AS9]at h3;rw[←h3];refine World.cell?_of_block (a:=⟨b,off+i*i0.size+j,none⟩) ?_
   rw[sV,DT _ _ _ _ _ (show b≠w.heap.size by omega)];exact AEu b hbw) (fun j hj=>by
   have hb:W1.there w.heap.size ((i+m)*i0.size) (cs.drop (i*i0.size)).length:=hN _ _ (by omega);refine⟨?_,?_⟩
   ·rw[hWc]
    exact isSome_setCells _ _ _ _ (fun t ht=>(hN (i*i0.size) vs.length (by omega) t ht).1) _ (hb j hj).1
   ·rw[hWf,World.frozen?_setCells]
    exact(hb j hj).2) (fun v hv=>h1c v (AUw hv))
 generalize hk:i0.size=k at*
 have hE1:∀x,((w.alloc (.cells ROW (ρ.t 9))).drew).cell? x=W1.cell? x:=fun x=>by rw[hW1];rfl
 have hE2:∀x,((w.alloc (.cells ROW (ρ.t 9))).drew).frozen? x=W1.frozen? x:=fun x=>by rw[hW1];rfl
 have hE3:((w.alloc (.cells ROW (ρ.t 9))).drew).heap=W1.heap:=by rw[hW1];rfl
 have hF1:∀x,(((w.alloc (.cells ROW (ρ.t 9))).drew.setCells w.heap.size (i*k) vs).drew).cell? x=(W1.setCells w.heap.size (i*k) vs).cell? x:=fun x=>by rw[hW1];rfl
 have hF2:∀x,(((w.alloc (.cells ROW (ρ.t 9))).drew.setCells w.heap.size (i*k) vs).drew).frozen? x=(W1.setCells w.heap.size (i*k) vs).frozen? x:=fun x=>by rw[hW1];rfl
 have hF3:(((w.alloc (.cells ROW (ρ.t 9))).drew.setCells w.heap.size (i*k) vs).drew).heap=(W1.setCells w.heap.size (i*k) vs).heap:=by rw[hW1];rfl
 have hw1:IntKind.i64.wrap ((i:Int)+(m:Int))=(i:Int)+(m:Int):=by rw[IntKind.wrap_i64];omega
 have hb1:(0:Int)≤(i:Int)+(m:Int):=by omega
 have O9:i≤n:=by omega
 have htn:((i:Int)+(m:Int)).toNat=i+m:=by omega
 have hb3:(i:Int)≤(n:Int):=by omega
 have hGi: ¬(G=i):=by omega
 have Ac5: ¬(G=i+m):=by omega
 have hci: ¬(c=i):=by omega
 subst hW1;clear hkk hik hold AAx hG hRl AEQ rb him hni hdl hN vB VI ATa AEu ATH ALb;obtain⟨vab,vao,vas⟩:=va
 go_enter L.f22,Body2.n22_ntmps ρ
 go_wp2_with (first
  |(at_builtin;refine Lib.wpList_append_run _ rfl _ _ _ _ rfl _ _ rfl rfl _ _ (hrz _) ?_)
  |(at_builtin;refine wpList_copy_runI _ rfl _ _ (ρ.t 24) (ρ.t 24) rfl _ _ rfl rfl (AYi _ hE1 hE2 hE3 _ _) ?_)
  |(at_builtin;refine wpList_copy_runI _ rfl _ _ (ρ.t 24) (ρ.t 24) rfl _ _ rfl rfl (AUk _ (fun _=>rfl) (fun _=>rfl) rfl _ _ _) ?_))
 go_region_law_o (refine step_copy_runI rfl _ _ (ρ.t 24) (ρ.t 24) rfl (.slice (some ⟨w.heap.size,(i+m)*k,none⟩) (n+m-(i+m)) (G-(i+m))) (.slice (some ⟨b,off+i*k,none⟩) (n-i) (c-i)) (by simp[Act.eval,Act.put]) (by simp[Act.eval,Act.put]) (AUk _ hF1 hF2 hF3 (ρ.t 3) (G-(i+m)) (c-i)) ?_)
 go_wp2
 go_ret
 refine⟨rfl,((w.alloc (.cells ROW (ρ.t 9))).drew).drew,rfl,rfl,rfl,rfl,?_⟩;rw[drew_setCells]
end
end Go.Fw
end
section
namespace Go.Fw
open Go.Proofs Go.Shelf Go.RowKit Go.Lib
def Flat(w:World)(r:Ty)(css:List (List Value))(rows:List r.D):Prop:=
 css.length=rows.length∧(∀c∈css,c.length=r.n)∧ ∀(i:Nat) cs y,css[i]? =some cs→rows[i]? =some y→Rd w (fun _=>False) r cs y
theorem Flat.to{w w':World}{r:Ty}(hf:r.flat=true){css:List (List Value)}{rows:List r.D}(h:Flat w r css rows):Flat w' r css rows:=
 ⟨h.1,h.2.1,fun i cs y a b=>dY hf (h.2.2 i cs y a b)⟩
theorem Flat.take{w:World}{r:Ty}{css:List (List Value)}{rows:List r.D}(h:Flat w r css rows)(n:Nat):Flat w r (css.take n) (rows.take n):=by
 refine⟨by simp[h.1],fun c hc=>h.2.1 c (AWo hc),fun i cs y a b=> ?_⟩;rw[AVk]at a b;split at a
 ·rename_i hi
  rw[ALI hi]at b;exact h.2.2 i cs y a b
 simp_all
theorem Flat.drop{w:World}{r:Ty}{css:List (List Value)}{rows:List r.D}(h:Flat w r css rows)(n:Nat):Flat w r (css.drop n) (rows.drop n):=by
 refine⟨by simp[h.1],fun c hc=>h.2.1 c (AUw hc),fun i cs y a b=> ?_⟩;rw[AVR]at a b;exact h.2.2 _ cs y a b
theorem Flat.append{w:World}{r:Ty}{css ru:List (List Value)}{rows AUf:List r.D}(h:Flat w r css rows)(k:Flat w r ru AUf):Flat w r (css++ru) (rows++AUf):=by
 refine⟨by simp[h.1,k.1],fun c hc=>(AOs.1 hc).elim (h.2.1 c) (k.2.1 c),fun i cs y a b=> ?_⟩;by_cases hi:i<rows.length
 ·rw[ANA (by rw[h.1];omega)]at a
  rw[ANA hi]at b;exact h.2.2 i cs y a b
 ·rw[AOU (by rw[h.1];omega)]at a
  rw[AOU (by omega)]at b;rw[h.1]at a;exact k.2.2 _ cs y a b
theorem Flat.one{w:World}{r:Ty}(hf:r.flat=true){css:List (List Value)}{rows:List r.D}(h:Flat w r css rows):∀v∈css.flatten,v.oneCell' =true:=by
 intro v hv;obtain⟨c,hc,hv⟩:=ARg.1 hv;obtain⟨i,hi,rfl⟩:=AQU hc;have h1:=h.1;exact j8 (iT (S:=fun _=>False) (d:=0) hf (h.2.2 i _ _ (ALR hi) (ALR (by omega)))) v hv
theorem Flat.at{w:World}{S:Nat→Prop}{d:Nat}{r:Ty}(hf:r.flat=true){css:List (List Value)}{rows:List r.D}(h:Flat w r css rows):FL w S d r css rows (List.replicate rows.length []):=FL.flat hf h.1 h.2.1 h.2.2
theorem AGd{w:World}{S:Nat→Prop}{r:Ty}(hf:r.flat=true){css:List (List Value)}{rows:List r.D}{Fs:List ABI}{d:Nat}(h:FL w S d r css rows Fs):Flat w r css rows:=by
 refine⟨h.1,h.2.2.1,fun i cs y a b=> ?_⟩;have hi:=(ALf.1 b).1;have h2:=h.2.1;exact dY hf (XJ (h.2.2.2 i cs y (Fs[i]'(by omega)) a b (ALR _)))
theorem Flat.rY{w:World}{r:Ty}{css:List (List Value)}{rows:List r.D}(h:Flat w r css rows)(n:Nat)(hn:n≤rows.length):css.flatten.take (n*r.n)=(css.take n).flatten:=by
 have h1:((css.take n).flatten).length=n*r.n:=by
  rw[Hn (n:=r.n) (fun c hc=>h.2.1 c (AWo hc)),AVO,h.1,Nat.min_eq_left hn]
 grind[List.take_append_drop,List.flatten_append,List.take_of_length_le]
theorem Flat.sR{w:World}{r:Ty}{css:List (List Value)}{rows:List r.D}(h:Flat w r css rows)(n:Nat)(hn:n≤rows.length):css.flatten.drop (n*r.n)=(css.drop n).flatten:=by
 have h1:((css.take n).flatten).length=n*r.n:=by
  rw[Hn (n:=r.n) (fun c hc=>h.2.1 c (AWo hc)),AVO,h.1,Nat.min_eq_left hn]
 grind[List.take_append_drop,List.flatten_append,List.drop_eq_nil_of_le]
theorem jC{w:World}{S:Nat→Prop}{d b o cap:Nat}{r:Ty}{rows:List r.D}{css:List (List Value)}{Fs:List ABI}{arr:Array Value}{ty:TypeId}{fr:ACf}(h:FL w S d r css rows Fs)(hb:w.heap[b]? =some (.cells arr ty fr))
  (hc:Bb w b o css.flatten) (yK:rows.length≤cap) (O_:o+cap*r.n≤arr.size) (hu:vx fr (arr.size+mk r)):Ow w S (d+1) (.sl r) [.slice (some ⟨b,o,none⟩) rows.length cap] rows (b::Fs.flatten):=by
 simp only[Ow];refine⟨_,cap,rfl,yK,.inr ⟨b,o,arr,ty,fr,Fs,rfl,hb,O_,hu,rfl,h.2.1,fun j q G hq hG=> ?_⟩⟩;have hj:=(ALf.1 hq).1;have h1:=h.1;have qN:j<css.length:=by omega
 refine⟨css[j],h.2.2.1 _ (AL5 _),fun x u hx=> ?_,h.2.2.2 j _ _ _ (ALR qN) hq hG⟩;have hxl:=(ALf.1 hx).1;rw[h.2.2.1 _ (AL5 _)]at hxl;have:=YT (n:=r.n) (css:=css) (ex:=[]) (i:=j) h.2.2.1 (ALR qN) hxl;rw[AMa,hx]at this;have:=hc _ _ this;grind
theorem lM{w:World}{b o:Nat}{A V B:List Value}{arr:Array Value}{ty:TypeId}{fr:ACf}(hb:w.heap[b]? =some (.cells arr ty fr))(hs:o+(A.length+V.length)+B.length≤arr.size)(hA:Bb w b o A):
  ∃KX,((w.setCells b (o+(A.length+V.length)) B).setCells b (o+A.length) V).heap[b]? =some (.cells KX ty fr)∧KX.size=arr.size∧Bb ((w.setCells b (o+(A.length+V.length)) B).setCells b (o+A.length) V) b o (A++V++B):=by
 have h1:=FY B (o+(A.length+V.length)) w b arr ty fr hb;have z1:(FG arr (o+(A.length+V.length)) B).size=arr.size:=Fe ..;have h2:=FY V (o+A.length) _ b _ ty fr h1;grind[ON,Fe,Bb.append,TX,List.length_append]
theorem iI{w:World}{b o:Nat}{A V B:List Value}{arr:Array Value}{ty:TypeId}{fr:ACf}(hb:w.heap[b]? =some (.cells arr ty fr))(hs:o+(A.length+V.length)+B.length≤arr.size)(hA:Bb w b o A):
  ∃KX,((w.setCells b (o+A.length) V).setCells b (o+(A.length+V.length)) B).heap[b]? =some (.cells KX ty fr)∧KX.size=arr.size∧Bb ((w.setCells b (o+A.length) V).setCells b (o+(A.length+V.length)) B) b o (A++V++B):=by
 have h1:=FY V (o+A.length) w b arr ty fr hb;have z1:(FG arr (o+A.length) V).size=arr.size:=Fe ..;have h2:=FY B (o+(A.length+V.length)) _ b _ ty fr h1;grind[ON,Fe,Bb.append,TX,List.length_append]
@[reducible] def rk (r:Ty):BX:=⟨[(0,.c (.ref 0)),(1,.c (.v (.int .i64))),(2,.c (.sl false r))],[.sl 1 r]⟩
@[reducible] def yl (r:Ty):BX:=⟨[(0,.c (.ref 1))],[.gone,.sl 1 r]⟩
theorem zP{P:Program}{f:Nat}{args:Array Value}{E:Env}{w:World}{r:Ty}{d:Nat}(hd:1≤d){F:ABI}(hS:Sep E w F){l:List r.D}{Q:Ending→World→Prop}
  (h:Calls P f args w Q) (hq:∀e w',Q e w'→ ∃v F',e= .returned v∧isSlice v=true∧Ow w' E.S d (.sl r) [v] l F'∧F'.Nodup∧(∀c∈F',¬E.T c∧c<w'.heap.size)∧(∀c,E.T c→w'.heap[c]? =w.heap[c]?)∧Grown w w'):
  Calls P f args w fun e w' => ∃x E',e= .returned x∧cw E w E' w'∧C_ E' w' [.dead,.sl d r l] [.dead,.sl d r l] []∧
   N7 E' w' [.dead,.sl d r l] id [(0,.c (.ref 1))] ((),()) [x]∧ ∀i,i<1→alive [.gone,.sl d r] i=true→E'.Ht i=E.Ht i∧E'.Hu i=E.Hu i:=by
 refine h.mono fun e w' hh=> ?_
 obtain⟨v,F',rfl,hv,ho,nd,hfr,hT,hg⟩:=hq e w' hh
 let E':Env:={ E with Hu:=fun n=>if n=1 then v else E.Hu n }
 refine⟨v,E',rfl,⟨fun _ h=>h,fun _ h=>h,fun _ h=> .inl h,fun _ h=> .inl h,hT,hg.os,hg.tape,hg.output,hg.size⟩,⟨[[],F'],⟨rfl,fun k B F hB hF=> ?_⟩,?_⟩,?_,fun i hi ha=> ?_⟩
 ·match k with
  |0=>
   simp at hB hF;subst hB hF;rfl
  |1=>
   simp at hB hF;subst hB hF;exact⟨hd,ho⟩
  |k+2=>simp_all
 ·refine⟨by simp_all,fun c hc=>(hfr c (by simp_all)).1,fun c hc=>(hfr c (by simp_all)).2,hS.st,fun c hc=>ASh (hS.cA c hc) hg.size⟩
 ·refine⟨⟨v,rfl,?_⟩,trivial⟩
  refine⟨hv,?_⟩
  show DE r l []∧(∃q,G5 r l []=some q)∧Ir w' (E'.Hu 1) []=some v
  refine⟨trivial,⟨_,rfl⟩,?_⟩;rfl
 grind
end Go.Fw
end
section
namespace Go.Fw
open Go.M Go.Proofs Go.Shelf Go.RowKit Go.Lib
theorem vQ{w:World}{b:Nat}{arr:Array Value}{ty:TypeId}{fr:ACf}(h:w.heap[b]? =some (.cells arr ty fr)):w.shape? b=some (ty,arr.size):=by
 simp[World.shape?,h]
theorem ADe{w:World}{b o:Nat}{v:Value}(h:w.cell? ⟨b,o,none⟩=some v):∃arr ty fr,w.heap[b]? =some (.cells arr ty fr)∧o<arr.size:=by
 unfold World.cell? at h;grind
theorem Grown.trans'{w w' w'':World}(h:Grown w w')(k:Grown w' w''):Grown w w'':=⟨k.os.trans h.os,k.tape.trans h.tape,k.output.trans h.output,ARE h.size k.size⟩
theorem tJ{P:Program}{T:Jg}{ρ:Ren}{nm:String}{fv:Func}(hT:Ef P T)(L:dL P ρ nm fv){r:Ty}(UJ:T.M9 (ρ.t 24) r=true)(hf:r.flat=true)(Yg:mk r=1)(hn0:0<r.n):
  XG P (ρ.f 22) ⟨rk r,yl r,fun v=>(wj v.1.2.1 v.1.2.2.1 v.2.1).map fun l=>(((),()),((),l,()))⟩:=by
 refine⟨by simp[QP.ok,kinds,kM,AP.LO,XP.LO,BP.LO],Wu L.f22 L.n22 (by kernel_rfl),?_⟩;intro E w v args u ATe hB hS hg;obtain⟨⟨u0,p,vs,u1⟩,rows,u2⟩:=v;obtain⟨⟨⟨⟩,⟨⟩⟩,⟨⟩,l,⟨⟩⟩:=u;simp only[ALe]at hg;obtain⟨l',gl,hg⟩:=hg;simp only[APo,true_and,ASn]at hg;subst hg;unfold wj at gl;split at gl
 case isFalse=>cases gl
 rename_i hc;obtain⟨hp0,hp1,Vx⟩:=hc;obtain⟨p,rfl⟩:=AWw hp0;simp only[AL2,ALW]at gl;have hpn:p≤rows.length:=by omega
 obtain⟨⟨a0,h0,x0⟩,⟨a1,h1,x1⟩,⟨a2,h2,x2⟩,_⟩:=hS;have II:args= #[a0,a1,a2]:=by
  have hl3:args.toList.length=3:=ATe;apply Array.ext'
  match hq:args.toList,hl3 with
  |[b0,b1,b2],_=>
   rw[hq]at h0 h1 h2;simp at h0 h1 h2;simp[h0,h1,h2]
 subst II;have e0:E.Hu 0=a0:=by
  have:VR E w [Bx.sl 1 r rows] (.ref 0 []) a0:=x0;simp only[VR]at this;obtain⟨_,_,_,h⟩:=this;rw[DB]at h;exact Option.some.inj h
 have e1:a1= .int .i64 (p:Int):=by
  have:VR E w [Bx.sl 1 r rows] (.v (.int .i64) (p:Int)) a1:=x1;simp only[VR,Rd,AQN,ASn]at this;exact this.2
 have e2:Rd w E.T (.sl r) [a2] vs:=by
  have:VR E w [Bx.sl 1 r rows] (.sl false r vs) a2:=x2;simp only[VR]at this;simpa using this
 subst e1;obtain⟨Fs,⟨hFl,hFb⟩,hSep⟩:=hB;obtain⟨F,rfl⟩:∃F,Fs=[F]:=by
  match Fs,hFl with
  |[F],_=>exact⟨F,rfl⟩
 have AFG:=hFb 0 (.sl 1 r rows) F rfl rfl;obtain⟨_,ho⟩:=AFG;rw[e0]at ho;simp only[ATB,AVM,AMa]at hSep;have ho0:=ho;obtain⟨ad,cap,css,Fs1,R1,rfl,hle,hd,hp1',hcase⟩:=nI ho;have xA:=AGd hf hd;obtain⟨e,ti,hut,T4,hs1,hby,hrow⟩:=KZ hT UJ;obtain⟨i0,z,i1,i2,i3,i4,i5,lI⟩:=V6 hT T4 hrow;have he:e=ρ.t 9:=by
  have:=L.t24.symm.trans hut;simp at this;exact this.symm
 subst he;rw[hs1]at i2;have z9:∀w,(Go.sizeOf (ρ.t 9)).run P w= .ok r.n w:=fun w=>by simp[sizeOf,typeInfo,i1,i2]
 have hzl:z.cells.size=r.n:=by rw[←AU0,i5,Gp]
 have e2':=e2;simp only[Rd]at e2;obtain⟨va,vc,Zv,hvle,hvr⟩:=e2;simp only[AQN,ASn]at Zv;subst Zv;have fin:∀{Q:Ending→World→Prop},Calls P (ρ.f 22) #[.slice ad rows.length cap,.int .i64 (p:Int),.slice va vs.length vc] w Q→
   (∀e w',Q e w'→ ∃v F',e= .returned v∧isSlice v=true∧Ow w' E.S 1 (.sl r) [v] l' F'∧F'.Nodup∧(∀c∈F',¬E.T c∧c<w'.heap.size)∧(∀c,E.T c→w'.heap[c]? =w.heap[c]?)∧Grown w w')→_:=fun h hq=>zP (APz 1) hSep h hq
 have lH:∀n:Nat,(List.replicate n ([]:ABI)).flatten=[]:=fun n=>by simp
 by_cases hm0:vs.length=0
 ·
  have AZh:vs=[]:=APc hm0;subst AZh;have hl:rows=l':=by rw[←gl,AMa,List.take_append_drop]
  subst hl;refine fin (ADH (k:=r.n) L z9 ad rows.length cap p va vc w hpn hle) fun e w' h=> ?_
  obtain⟨rfl,rfl⟩:=h;exact⟨_,F,rfl,rfl,ho0,hSep.nodup,fun c hc=>⟨hSep.free c hc,hSep.lt c hc⟩,fun _ _=>rfl,⟨rfl,rfl,rfl,APz _⟩⟩
 have hm:0<vs.length:=by omega
 rcases hvr with hvr|⟨vb,vo,rfl,hvT,hvr⟩
 ·exact absurd hvr hm0
 obtain⟨ru,c1,c2,c3,c4⟩:=nO hvr;have Xi:Flat w r ru vs:=⟨c1,c2,fun i cs y a b=>dY hf (c4 i cs y a b)⟩;have yv:ru.flatten.length=vs.length*r.n:=by rw[Hn c2,c1]
 have yC:css.flatten.length=rows.length*r.n:=by rw[Hn hd.2.2.1,hd.1]
 have AV3:0<ru.flatten.length:=by rw[yv];exact Nat.mul_pos hm hn0
 obtain⟨arrv,tyv,frv,hbv,hov⟩:=ADe (c3 0 _ (ALR AV3));have AbL:vb<w.heap.size:=by
  by_cases hh:vb<w.heap.size
  ·exact hh
  ·rw[Array.getElem?_eq_none (by omega)]at hbv;cases hbv
 have lX:ku P w r.n vs.length (.slice (some ⟨vb,vo,none⟩) vs.length vc) ru.flatten:=QW c1 c2 (.inr ⟨vb,vo,rfl,c3⟩);have AUi:∀W:World,W.heap[vb]? =w.heap[vb]?→(Builtin.firstCells r.n vs.length (.slice (some ⟨vb,vo,none⟩) vs.length vc)).run P W= .ok ru.flatten.toArray W:=fun W hW=>by
  simp only[Builtin.firstCells];rw[←yv];exact Lk (c3.of_block hW)
 have ALn:=xA.one hf;have AC6:=Xi.one hf;by_cases Sg:rows.length+vs.length≤cap
 ·rcases hcase with⟨h0,_⟩|⟨b,o,arr,ty,fr,rfl,hb,O_,hu,rfl,qo⟩
  ·omega
  have hbT: ¬E.T b:=hSep.free b (by simp);have ADf:b<w.heap.size:=hSep.lt b (by simp);have bM:vb≠b:=fun e=>hbT (e▸hvT)
  have Aby:(rows.length+vs.length)*r.n≤cap*r.n:=AOk _ Sg;have rb:(rows.length+vs.length)*r.n=rows.length*r.n+vs.length*r.n:=AS5 ..;by_cases hpe:p=rows.length
  ·subst hpe
   have hl:rows++vs=l':=by rw[←gl,List.take_length,ATA,AMa]
   subst hl;have iq:=AEI (ρ:=ρ) L (i0:=i0) i1 b o rows.length cap ⟨vb,vo,none⟩ vs.length vc ru.flatten w hm Sg (by rw[i2];exact T8 (k:=mk r) hb (by omega) hu) (by rw[i2];exact lX) AC6;refine fin iq fun e w' h=> ?_
   obtain⟨rfl,rfl⟩:=h;obtain⟨KX,q1,q2,q3⟩:=lM (B:=[]) (V:=ru.flatten) hb (by simp only[AQF];omega) qo;rw[yC,←i2]at q1 q3;simp only[World.setCells,AMa]at q1 q3;have xO:=(xA.append Xi).to (w':=w.setCells b (o+rows.length*i0.size) ru.flatten) hf;refine⟨_,b::(List.replicate (rows++vs).length ([]:ABI)).flatten,rfl,rfl,?_,?_,?_,fun c hc=>DT _ _ _ _ _ (fun e=>hbT (e▸hc)),CC _ _ _ _⟩
   ·have:=jC (cap:=cap) (xO.at (S:=E.S) (d:=0) hf) q1 (by rw[AS6];exact q3) (by rw[APV];exact Sg) (by rw[q2];exact O_) (by rw[q2];exact hu)
    rw[lH]at this⊢;rw[APV]at this;exact this
   ·simp
   ·intro c hc
    rw[lH]at hc;simp at hc;subst hc;exact⟨hbT,by rw[DY];exact ADf⟩
  ·have Jq:p<rows.length:=by omega
   have hpm:p*r.n≤rows.length*r.n:=AOk _ hpn;have AMg:(p+vs.length)*r.n=p*r.n+vs.length*r.n:=AS5 ..;have iq:=ABx (ρ:=ρ) L (i0:=i0) i1 (by rw[i2];exact hn0) b o rows.length cap p ⟨vb,vo,none⟩ vs.length vc css.flatten ru.flatten w Jq hm Sg Vx bM (by rw[i2];exact yC) (by rw[i2];exact yv) qo
    (by rw[i2];exact T8 (k:=mk r) hb (by omega) hu) (by rw[i2];exact AUi) ALn AC6 tyv ty arrv.size arr.size (vQ hbv) (vQ hb) (by omega) (by
     have:=hu arr.size (by omega);obtain⟨lo,hi⟩:=fr;simp only[World.frozen?,hb];simp at this⊢;omega)
   refine fin iq fun e w' h=> ?_
   obtain⟨rfl,W,sV,hWg,rfl⟩:=h;have hA:(css.flatten.take (p*r.n)).length=p*r.n:=by rw[AVO];omega
   have hB:(css.flatten.drop (p*r.n)).length=rows.length*r.n-p*r.n:=by rw[AWr,yC]
   have hbW:W.heap[b]? =some (.cells arr ty fr):=by rw[sV];exact hb
   have hcA:Bb W b o (css.flatten.take (p*r.n)):=Bb.heap (fun j v hj=>by
    rw[AVk]at hj;split at hj
    ·exact qo j v hj
    ·cases hj) sV
   obtain⟨KX,q1,q2,q3⟩:=lM (B:=css.flatten.drop (p*r.n)) (V:=ru.flatten) hbW (by omega) hcA;rw[hA,yv,←AMg,←i2]at q1 q3
   generalize qY:(W.setCells b (o+(p+vs.length)*i0.size) (css.flatten.drop (p*i0.size))).setCells b (o+p*i0.size) ru.flatten=w' at q1 q3
   have xO:=(((xA.take p).append Xi).append (xA.drop p)).to (w':=w') hf;rw[gl]at xO;have zn:l'.length=rows.length+vs.length:=by rw[←gl];simp;omega
   refine⟨_,b::(List.replicate l'.length ([]:ABI)).flatten,rfl,rfl,?_,?_,?_,fun c hc=> ?_,?_⟩
   ·have:=jC (cap:=cap) (xO.at (S:=E.S) (d:=0) hf) q1 (by
     rw[AS6,AS6,←xA.rY p hpn,←xA.sR p hpn,←i2];exact q3) (by rw[zn];exact Sg) (by rw[q2];exact O_) (by rw[q2];exact hu)
    rw[lH]at this⊢;rw[zn]at this;exact this
   ·simp
   ·intro c hc
    rw[lH]at hc;simp at hc;subst hc;refine⟨hbT,?_⟩;rw[←qY,DY,DY,sV];exact ADf
   ·have hcb:c≠b:=fun e=>hbT (e▸hc)
    rw[←qY,DT _ _ _ _ _ hcb,DT _ _ _ _ _ hcb,sV]
   ·rw[←qY]
    exact Grown.trans' hWg (Grown.trans' (CC _ _ _ _) (CC _ _ _ _))
 ·have hgc:=grownCap_ge w (rows.length+vs.length) cap (ρ.t 9)
  by_cases hpe:p=rows.length
  ·subst hpe
   have hl:rows++vs=l':=by rw[←gl,List.take_length,ATA,AMa]
   subst hl;have hold:rows.length=0∨ ∃b o,ad=some ⟨b,o,none⟩∧Bb w b o css.flatten:=by
    rcases hcase with⟨h0,_⟩|⟨b,of,arr,ty0,fr,rfl,hb,O_,hunf,rfl,hc⟩
    ·exact .inl (by omega)
    ·exact .inr ⟨b,of,rfl,hc⟩
   have iq:=AD0 (ρ:=ρ) L (i0:=i0) (z:=z) i1 i4 (by omega) ad rows.length cap ⟨vb,vo,none⟩ vs.length vc css.flatten ru.flatten w hm hle (by omega) Vx (by rw[i2];exact eo hd.1 hd.2.2.1 hold) (by rw[i2];exact lX);refine fin iq fun e w' h=> ?_
   obtain⟨rfl,rfl⟩:=h
   generalize grownCap w (rows.length+vs.length) cap (ρ.t 9)=gc at hgc⊢
   generalize bu:css.flatten.toArray++ru.flatten.toArray++Builtin.zeroCells z.cells (gc-(rows.length+vs.length))=arr
   have hal:arr.toList=(css++ru).flatten++(Builtin.zeroCells z.cells (gc-(rows.length+vs.length))).toList:=by rw[←bu];simp
   have AZd:arr.size=gc*r.n:=by
    rw[←bu];simp only[AWz,AW0,ZJ,hzl,yv,yC,←AS5];congr 1;omega
   have new:(w.drew.alloc (.cells arr (ρ.t 9))).heap[w.heap.size]? =some (.cells arr (ρ.t 9)):=by
    show(w.heap.push (.cells arr (ρ.t 9)))[w.heap.size]? =_
    simp
   have xO:=(xA.append Xi).to (w':=w.drew.alloc (.cells arr (ρ.t 9))) hf;have hra:=xO.at (S:=E.S) (d:=0) hf;refine⟨_,w.heap.size::(List.replicate (rows++vs).length ([]:ABI)).flatten,rfl,rfl,?_,?_,?_,fun c hc=>Im (hSep.cA c hc),⟨rfl,rfl,rfl,by show _≤(w.heap.push _).size;simp⟩⟩
   ·have:=dC (cap:=gc) new hal hra.1 (by rw[APV];exact hgc) (by omega) (WB _) hra.2.1 hra.2.2.2
    rw[lH]at this⊢;rw[APV]at this;exact this
   ·simp
   ·intro c hc
    rw[lH]at hc;simp at hc;subst hc;exact⟨fun xM=>Nat.lt_irrefl _ (hSep.cA _ xM),by show _<(w.heap.push _).size;simp⟩
  ·have Jq:p<rows.length:=by omega
   have hpm:p*r.n≤rows.length*r.n:=AOk _ hpn;have AMg:(p+vs.length)*r.n=p*r.n+vs.length*r.n:=AS5 ..;have rb:(rows.length+vs.length)*r.n=rows.length*r.n+vs.length*r.n:=AS5 ..;rcases hcase with⟨h0,_⟩|⟨b,o,arr,ty,fr,rfl,hb,O_,hu,rfl,qo⟩
   ·omega
   have ADf:b<w.heap.size:=hSep.lt b (by simp);have iq:=AIC (ρ:=ρ) L (i0:=i0) (z:=z) i1 i4 (by rw[i2];exact hzl) (by rw[i2];exact hn0) (by omega) b o rows.length cap p ⟨vb,vo,none⟩ vs.length vc css.flatten ru.flatten w Jq hm hle (by omega) Vx (by rw[i2];exact yC) (by rw[i2];exact yv) ADf qo AbL (by rw[i2];exact AUi) ALn AC6;refine fin iq fun e w' h=> ?_
   obtain⟨rfl,W,sV,hWo,hWt,hWu,rfl⟩:=h
   generalize grownCap w (rows.length+vs.length) cap (ρ.t 9)=gc at hgc sV⊢
   have hA:(css.flatten.take (p*r.n)).length=p*r.n:=by rw[AVO];omega
   have hB:(css.flatten.drop (p*r.n)).length=rows.length*r.n-p*r.n:=by rw[AWr,yC]
   rw[i2]at sV
   generalize AAx:(css.flatten.take (p*r.n)).toArray++Builtin.zeroCells z.cells (rows.length+vs.length-p)++Builtin.zeroCells z.cells (gc-(rows.length+vs.length))=ROW at sV
   have hRs:ROW.size=gc*r.n:=by
    rw[←AAx];simp only[AWz,AW0,ZJ,hzl,hA,←AS5];congr 1;omega
   have hgm:(rows.length+vs.length)*r.n≤gc*r.n:=AOk _ hgc;have hbW:W.heap[w.heap.size]? =some (.cells ROW (ρ.t 9)):=by rw[sV];simp
   have hcA:Bb W w.heap.size 0 (css.flatten.take (p*r.n)):=fun j v hj=>by
    have qN:=(ALf.1 hj).1;rw[Ka hbW,ASz,←Array.getElem?_toList,←AAx];simp only[Array.toList_append,AM4];rw[ANA qN];exact hj
   obtain⟨KX,q1,q2,q3⟩:=iI (B:=css.flatten.drop (p*r.n)) (V:=ru.flatten) hbW (by omega) hcA;rw[hA,yv,←AMg,←i2,ASz,ASz]at q1 q3
   generalize qY:(W.setCells w.heap.size (p*i0.size) ru.flatten).setCells w.heap.size ((p+vs.length)*i0.size) (css.flatten.drop (p*i0.size))=w' at q1 q3
   have xO:=(((xA.take p).append Xi).append (xA.drop p)).to (w':=w') hf;rw[gl]at xO;have zn:l'.length=rows.length+vs.length:=by rw[←gl];simp;omega
   refine⟨_,w.heap.size::(List.replicate l'.length ([]:ABI)).flatten,rfl,rfl,?_,?_,?_,fun c hc=> ?_,?_⟩
   ·have:=jC (cap:=gc) (xO.at (S:=E.S) (d:=0) hf) q1 (by
     rw[AS6,AS6,←xA.rY p hpn,←xA.sR p hpn,←i2];exact q3) (by rw[zn];exact hgc) (by rw[q2];omega) (WB _)
    rw[lH]at this⊢;rw[zn]at this;exact this
   ·simp
   ·intro c hc
    rw[lH]at hc;simp at hc;subst hc;refine⟨fun xM=>Nat.lt_irrefl _ (hSep.cA _ xM),?_⟩;rw[←qY,DY,DY,sV];simp
   ·have cu:=hSep.cA c hc
    rw[←qY,DT _ _ _ _ _ (by omega),DT _ _ _ _ _ (by omega),sV];exact Im cu
   ·rw[←qY]
    refine Grown.trans' (w':=W) ⟨hWo,hWt,hWu,by rw[sV];simp⟩ (Grown.trans' (CC _ _ _ _) (CC _ _ _ _))
end Go.Fw
end
section
namespace Go.Fw
open Go.M Go.Proofs Go.Shelf Go.RowKit Go.Lib
structure pI (P:Program) (ρ:Ren) (nm:String):Prop where
 mixed:P.follows .mixedOrders=true
 f24:P.funcs[ρ.f 24]? =some { Body2.n24 ρ with name:=nm }
 n24:(nm== "runtime.NumGoroutine")=false
 t0:P.underlying (ρ.t 0)=some (TypeDesc.tuple #[])
 a0:∀w,(isAgg (ρ.t 0)).run P w= .ok false w
 z0:∀w,(Go.sizeOf (ρ.t 0)).run P w= .ok 1 w
 v0:∀w,(zeroValue (ρ.t 0)).run P w= .ok (Value.tuple #[]) w
 t3:P.underlying (ρ.t 3)=some (TypeDesc.int IntKind.i64)
 a3:∀w,(isAgg (ρ.t 3)).run P w= .ok false w
 z3:∀w,(Go.sizeOf (ρ.t 3)).run P w= .ok 1 w
 v3:∀w,(zeroValue (ρ.t 3)).run P w= .ok (Value.int IntKind.i64 0) w
 t4:P.underlying (ρ.t 4)=some (TypeDesc.bool)
 a4:∀w,(isAgg (ρ.t 4)).run P w= .ok false w
 z4:∀w,(Go.sizeOf (ρ.t 4)).run P w= .ok 1 w
 v4:∀w,(zeroValue (ρ.t 4)).run P w= .ok (Value.bool false) w
 t24:P.underlying (ρ.t 24)=some (TypeDesc.slice (ρ.t 9))
 a24:∀w,(isAgg (ρ.t 24)).run P w= .ok false w
 z24:∀w,(Go.sizeOf (ρ.t 24)).run P w= .ok 1 w
 v24:∀w,(zeroValue (ρ.t 24)).run P w= .ok (Value.slice none 0 0) w
section
variable{P:Program} {ρ:Ren} {nm:String}
set_option maxHeartbeats 4000000 in
set_option maxRecDepth 1000000 in
theorem AC5(L:pI P ρ nm){k:Nat}(z9:∀w,(Go.sizeOf (ρ.t 9)).run P w= .ok k w)(ad:Option Addr)(n c i:Nat)(w:World)(hi:i≤n)(hnc:n≤c):
  Calls P (ρ.f 24) #[.slice ad n c,.int .i64 i,.int .i64 i] w fun e w' =>e= .returned (.slice ad n c)∧w' =w:=by
 have mixed:=L.mixed;have t0:=L.t0;have a0:=L.a0;have z0:=L.z0;have v0:=L.v0;have t3:=L.t3;have a3:=L.a3;have z3:=L.z3;have v3:=L.v3;have t4:=L.t4;have a4:=L.a4;have z4:=L.z4;have v4:=L.v4;have t24:=L.t24;have a24:=L.a24;have z24:=L.z24;have v24:=L.v24;have u0:=run_underlying L.t0;have u3:=run_underlying L.t3;have u4:=run_underlying L.t4;have XY:=run_underlying L.t24
 go_enter L.f24,Body2.n24_ntmps ρ
 cases ad with
 |none=>
  go_wp2
  all_goals (go_ret;exact⟨rfl,rfl⟩)
 |some a=>
  obtain⟨ab,ao,asp⟩:=a
  go_wp2
  all_goals (go_ret;exact⟨rfl,rfl⟩)
theorem wk{w:World}{t elem ty:TypeId}{i0:TypeInfo}{z:Value}{b o n cap:Nat}{Z:List Value}(hu:P.underlying t=some (.slice elem))(hi:P.info? elem=some i0)(hz:i0.zero=some z)(hn:0<n)(hZ:(Builtin.zeroCells z.cells n).toList=Z)
  (qB:w.there b o Z.length) (h1:∀v∈Z,v.oneCell' =true):(Builtin.clear_ #[t] ty #[.slice (some ⟨b,o,none⟩) n cap]).run P w= .ok (.tuple #[]) (w.setCells b o Z):=by
 have cz:=run_storeCells_cells (P:=P) b o Z 0 w (by simpa using fun j hj=>(qB j hj).1) (by simpa using fun j hj=>(qB j hj).2) h1;rw[ATU]at cz;obtain⟨n,rfl⟩:∃m,n=m+1:=⟨n-1,by omega⟩;simp[Builtin.clear_,run_underlying hu,zeroValue,typeInfo,hi,hz,hZ,cz]
set_option maxHeartbeats 4000000 in
set_option maxRecDepth 1000000 in
theorem AEi(L:pI P ρ nm){i0:TypeInfo}{z:Value}(uf:P.info? (ρ.t 9)=some i0)(hz:i0.zero=some z)(b off n c i j:Nat)(cs Z:List Value)(w:World)(hij:i<j)(hj:j≤n)(hnc:n≤c)
  (cu:cs.length=n*i0.size) (vB:Bb w b off cs) (qB:w.there b off (n*i0.size)) (h1c:∀v∈cs,v.oneCell' =true) (hZ:(Builtin.zeroCells z.cells (j-i)).toList=Z) (hZl:Z.length=(j-i)*i0.size) (h1z:∀v∈Z,v.oneCell' =true):
  Calls P (ρ.f 24) #[.slice (some ⟨b,off,none⟩) n c,.int .i64 i,.int .i64 j] w fun e w' =>
   e= .returned (.slice (some ⟨b,off,none⟩) (i+(n-j)) c)∧ ∃W:World,W.heap=w.heap∧Grown w W∧w' =(W.setCells b (off+i*i0.size) (cs.drop (j*i0.size))).setCells b (off+(i+(n-j))*i0.size) Z:=by
 have mixed:=L.mixed;have t0:=L.t0;have a0:=L.a0;have z0:=L.z0;have v0:=L.v0;have t3:=L.t3;have a3:=L.a3;have z3:=L.z3;have v3:=L.v3;have t4:=L.t4;have a4:=L.a4;have z4:=L.z4;have v4:=L.v4;have t24:=L.t24;have a24:=L.a24;have z24:=L.z24;have v24:=L.v24;have u0:=run_underlying L.t0;have u3:=run_underlying L.t3;have u4:=run_underlying L.t4;have XY:=run_underlying L.t24;have z9:∀w,(Go.sizeOf (ρ.t 9)).run P w= .ok i0.size w:=fun w=>by simp[sizeOf,typeInfo,uf]
 obtain⟨k,hk⟩:∃k,i0.size=k:=⟨_,rfl⟩;rw[hk]at cu qB hZl z9⊢;have e1:(n-j)*k=n*k-j*k:=AU2 ..;have e2:(j-i)*k=j*k-i*k:=AU2 ..;have e3:j*k≤n*k:=AOk _ hj;have e4:i*k≤j*k:=AOk _ (by omega);have e5:(i+(n-j))*k=i*k+(n-j)*k:=AS5 ..;obtain⟨news,lX⟩:∃news,news=cs.drop (j*k):=⟨_,rfl⟩;have hlen:news.length=(n-j)*k:=by rw[lX,AWr,cu];omega
 rw[←lX];obtain⟨A,hA,ANM⟩:∃A:Addr,(if c=j then(some ⟨b,off,none⟩:Option Addr)else some ⟨b,off+j*k,none⟩)=some A∧Hid (∀t u,news[t]? =some u→w.drew.cell? (A.add t)=some u):=by
  by_cases h:c=j
  ·refine⟨⟨b,off,none⟩,by simp[h],fun t u hu=> ?_⟩
   have h0:news.length=0:=by rw[hlen,show n-j=0 by omega,Nat.zero_mul]
   rw[AWv.1 h0]at hu;simp at hu
  ·refine⟨⟨b,off+j*k,none⟩,by simp[h],fun t u hu=> ?_⟩
   rw[lX,AVR]at hu;rw[Addr.add_eq,AS9];exact vB _ u hu
 have s1:Hid (news.length=(n-j)*k):=hlen;have s2:Hid (∀u∈news,u.oneCell' =true):=fun u hu=>h1c u (by rw[lX]at hu;exact AUw hu)
 have s3:Hid (∀t,t<news.length→(w.drew.cell? ⟨b,off+i*k+t,none⟩).isSome=true∧w.drew.frozen? ⟨b,off+i*k+t,none⟩=false):=by
  intro t ht;rw[hlen]at ht;rw[AS9];exact qB _ (by omega)
 obtain⟨W1,hW1⟩:∃W1,W1=w.drew.setCells b (off+i*k) news:=⟨_,rfl⟩;have Aed:∀ty,(Builtin.clear_ #[ρ.t 24] ty #[.slice (some ⟨b,off+(i+(n-j))*k,none⟩) (n-(i+(n-j))) (c-(i+(n-j)))]).run P W1= .ok (.tuple #[]) (W1.setCells b (off+(i+(n-j))*k) Z):=fun ty=>by
  rw[show n-(i+(n-j))=j-i by omega];refine wk L.t24 uf hz (by omega) hZ (fun t ht=> ?_) h1z;rw[hZl]at ht;have h0:=qB ((i+(n-j))*k+t) (by omega);rw[←AS9]at h0;rw[hW1];refine⟨isSome_setCells b _ _ _ (fun q hq=> ?_) _ h0.1,by rw[World.frozen?_setCells];exact h0.2⟩;rw[hlen]at hq;have:=(qB (i*k+q) (by omega)).1;rw[←AS9]at this;exact this
 have hW:Hid (W1=w.drew.setCells b (off+i*k) news):=hW1;have hic:i≤c:=by omega
 have hjc:j≤c:=by omega
 have hjn:(i:Int)≤(j:Int):=by omega
 have fin:∃W:World,W.heap=w.heap∧Grown w W∧W1.setCells b (off+(i+(n-j))*k) Z=(W.setCells b (off+i*k) news).setCells b (off+(i+(n-j))*k) Z:=⟨w.drew,rfl,⟨rfl,rfl,rfl,APz _⟩,by rw[hW1]⟩;clear hW1 lX hlen e1 e2 e3 e4 e5 qB vB cu hZl
 go_enter L.f24,Body2.n24_ntmps ρ
 go_wp2_with fail
 go_region_law_o (refine step_append_room rfl (.tmp 22) (.tmp 25) (ρ.t 24) rfl (ρ.t 9) i0 k t24 uf hk b off i c (by simp[Act.eval,Act.put]) A (n-j) (c-j) news (by simp[Act.eval,Act.put]) s1.out ANM.out s2.out (by omega) s3.out ?_;rw[←hW.out])
 go_wp2
 go_ret
 exact⟨rfl,fin⟩
end
end Go.Fw
end
section
namespace Go.Fw
open Go.M Go.Proofs Go.Shelf Go.RowKit Go.Lib
theorem FL.take{w:World}{S:Nat→Prop}{d:Nat}{r:Ty}{css:List (List Value)}{rows:List r.D}{Fs:List ABI}(h:FL w S d r css rows Fs)(n:Nat):FL w S d r (css.take n) (rows.take n) (Fs.take n):=by
 refine⟨by simp[h.1],by simp[h.2.1],fun c hc=>h.2.2.1 c (AWo hc),fun i cs y G a b c=> ?_⟩;rw[AVk]at a b c;split at a
 ·rename_i hi
  rw[ALI hi]at b c;exact h.2.2.2 i cs y G a b c
 simp_all
theorem FL.drop{w:World}{S:Nat→Prop}{d:Nat}{r:Ty}{css:List (List Value)}{rows:List r.D}{Fs:List ABI}(h:FL w S d r css rows Fs)(n:Nat):FL w S d r (css.drop n) (rows.drop n) (Fs.drop n):=by
 refine⟨by simp[h.1],by simp[h.2.1],fun c hc=>h.2.2.1 c (AUw hc),fun i cs y G a b c=> ?_⟩;rw[AVR]at a b c;exact h.2.2.2 _ cs y G a b c
theorem ABb{r:Ty}{css:List (List Value)}(hl:∀c∈css,c.length=r.n)(n:Nat)(hn:n≤css.length):css.flatten.take (n*r.n)=(css.take n).flatten:=by
 have h1:((css.take n).flatten).length=n*r.n:=by
  grind[Hn,List.mem_of_mem_take,List.length_take,Nat.min_eq_left]
 grind[List.take_append_drop,List.flatten_append,List.take_of_length_le]
theorem ABz{r:Ty}{css:List (List Value)}(hl:∀c∈css,c.length=r.n)(n:Nat)(hn:n≤css.length):css.flatten.drop (n*r.n)=(css.drop n).flatten:=by
 have h1:((css.take n).flatten).length=n*r.n:=by
  grind[Hn,List.mem_of_mem_take,List.length_take,Nat.min_eq_left]
 grind[List.take_append_drop,List.flatten_append,List.drop_eq_nil_of_le]
theorem c_:∀{A B:List ABI},A.Sublist B→A.flatten.Sublist B.flatten
 |_,_,.slnil=> .slnil
 |_,_,.cons b h=>(c_ h).trans (List.sublist_append_right _ _)
 |_,_,.cons_cons b h=>(List.Sublist.refl b).append (c_ h)
theorem Ul{Fs:List ABI}{p q:Nat}(hpq:p≤q):((Fs.take p++Fs.drop q).flatten).Sublist Fs.flatten:=by
 grind[List.drop_drop,List.drop_sublist,List.take_append_drop,c_]
@[reducible] def rr (d:Nat) (r:Ty):BX:=⟨[(0,.c (.ref 0)),(1,.c (.v (.int .i64))),(2,.c (.v (.int .i64)))],[.sl d r]⟩
@[reducible] def xl (d:Nat) (r:Ty):BX:=⟨[(0,.c (.ref 1))],[.gone,.sl d r]⟩
theorem sq{P:Program}{T:Jg}{ρ:Ren}{nm:String}(hT:Ef P T)(L:pI P ρ nm){r:Ty}(UJ:T.M9 (ρ.t 24) r=true)(hn0:0<r.n)(m:Nat):
  XG P (ρ.f 24) ⟨rr (m+1) r,xl (m+1) r,fun v=>(ADx v.1.2.1 v.1.2.2.1 v.2.1).map fun l=>(((),()),((),l,()))⟩:=by
 refine⟨by rfl,Wu L.f24 L.n24 (by kernel_rfl),?_⟩;intro E w v args u ATe hB hS hg;obtain⟨⟨u0,p,q,u1⟩,rows,u2⟩:=v;obtain⟨⟨⟨⟩,⟨⟩⟩,⟨⟩,l,⟨⟩⟩:=u;simp only[ALe]at hg;obtain⟨l',gl,hg⟩:=hg;simp only[APo,true_and,ASn]at hg;subst hg;unfold ADx at gl;split at gl
 case isFalse=>cases gl
 rename_i hc;obtain⟨hp0,hpq,hqn⟩:=hc;have hq0:(0:Int)≤q:=Int.le_trans hp0 hpq;obtain⟨p,rfl⟩:=AWw hp0;obtain⟨q,rfl⟩:=AWw hq0;simp only[AL2,ALW]at gl;have AOD:p≤q:=by omega
 have AQ7:q≤rows.length:=by omega
 obtain⟨⟨a0,h0,x0⟩,⟨a1,h1,x1⟩,⟨a2,h2,x2⟩,_⟩:=hS;have II:args= #[a0,a1,a2]:=by
  grind
 subst II;have e0:E.Hu 0=a0:=by
  have:VR E w [Bx.sl (m+1) r rows] (.ref 0 []) a0:=x0;grind[VR,DB,Option.some.inj]
 have e1:a1= .int .i64 (p:Int):=by
  have:VR E w [Bx.sl (m+1) r rows] (.v (.int .i64) (p:Int)) a1:=x1;simp only[VR,Rd,AQN,ASn]at this;simp_all
 have e2:a2= .int .i64 (q:Int):=by
  have:VR E w [Bx.sl (m+1) r rows] (.v (.int .i64) (q:Int)) a2:=x2;simp only[VR,Rd,AQN,ASn]at this;simp_all
 subst e1 e2;obtain⟨Fs,⟨hFl,hFb⟩,hSep⟩:=hB;obtain⟨F,rfl⟩:∃F,Fs=[F]:=by
  match Fs,hFl with
  |[F],_=>simp_all
 have AFG:=hFb 0 (.sl (m+1) r rows) F rfl rfl;obtain⟨_,ho⟩:=AFG;rw[e0]at ho;simp only[ATB,AVM,AMa]at hSep;have ho0:=ho;obtain⟨ad,cap,css,Fs1,R1,rfl,hle,hd,hp1',hcase⟩:=nI ho;obtain⟨e,ti,hut,T4,hs1,hby,hrow⟩:=KZ hT UJ;obtain⟨i0,z,i1,i2,i3,i4,i5,lI⟩:=V6 hT T4 hrow;have he:e=ρ.t 9:=by
  have:=L.t24.symm.trans hut;simp_all
 subst he;rw[hs1]at i2;have z9:∀w,(Go.sizeOf (ρ.t 9)).run P w= .ok r.n w:=fun w=>by simp[sizeOf,typeInfo,i1,i2]
 have hzl:z.cells.size=r.n:=by rw[←AU0,i5,Gp]
 have fin:∀{Q:Ending→World→Prop},Calls P (ρ.f 24) #[.slice ad rows.length cap,.int .i64 (p:Int),.int .i64 (q:Int)] w Q→
   (∀e w',Q e w'→ ∃v F',e= .returned v∧isSlice v=true∧Ow w' E.S (m+1) (.sl r) [v] l' F'∧F'.Nodup∧(∀c∈F',¬E.T c∧c<w'.heap.size)∧(∀c,E.T c→w'.heap[c]? =w.heap[c]?)∧Grown w w')→_:=fun h hq=>zP (by omega) hSep h hq
 by_cases hpe:p=q
 ·subst hpe
  have hl:rows=l':=by simp_all
  subst hl;refine fin (AC5 (k:=r.n) L z9 ad rows.length cap p w AQ7 hle) fun e w' h=> ?_
  obtain⟨rfl,rfl⟩:=h;exact⟨_,F,rfl,rfl,ho0,hSep.nodup,fun c hc=>⟨hSep.free c hc,hSep.lt c hc⟩,fun _ _=>rfl,⟨rfl,rfl,rfl,APz _⟩⟩
 have Jq:p<q:=by omega
 rcases hcase with⟨h0,_⟩|⟨b,o,arr,ty,fr,rfl,hb,O_,hu,rfl,qo⟩
 ·omega
 have hbT: ¬E.T b:=hSep.free b (by simp);have ADf:b<w.heap.size:=hSep.lt b (by simp);have qO:=AWI.1 hSep.nodup;have yC:css.flatten.length=rows.length*r.n:=by rw[Hn hd.2.2.1,hd.1]
 have g1:(rows.length-q)*r.n=rows.length*r.n-q*r.n:=AU2 ..;have g2:(q-p)*r.n=q*r.n-p*r.n:=AU2 ..;have g3:q*r.n≤rows.length*r.n:=AOk _ AQ7;have g4:p*r.n≤q*r.n:=AOk _ AOD;have g5:(p+(rows.length-q))*r.n=p*r.n+(rows.length-q)*r.n:=AS5 ..;have g6:rows.length*r.n≤cap*r.n:=AOk _ hle;have hzr:Eh r≠[]:=fun h=>by simp_all
 have hZ:(Builtin.zeroCells z.cells (q-p)).toList=(List.replicate (q-p) (Eh r)).flatten:=by
  grind[Builtin.zeroCells,VY,Eh,Gp]
 have hZl:((List.replicate (q-p) (Eh r)).flatten).length=(q-p)*r.n:=by rw[G_,Gp]
 have hZ1:∀v∈(List.replicate (q-p) (Eh r)).flatten,v.oneCell' =true:=fun v hv=>by
  obtain⟨c,hc1,hc2⟩:=ARg.1 hv;rw[AS7 hc1]at hc2;exact j8 (w:=w) (S:=E.S) (d:=0) (dw lI) v hc2
 have iq:=AEi (ρ:=ρ) L (i0:=i0) (z:=z) i1 i4 b o rows.length cap p q css.flatten _ w Jq AQ7 hle (by simp_all) qo (by grind[T8,mk]) hd.one hZ (by simp_all) hZ1;refine fin iq fun e w' h=> ?_
 obtain⟨rfl,W,sV,hWg,rfl⟩:=h;rw[i2];have hA:(css.flatten.take (p*r.n)).length=p*r.n:=by grind
 have hB:(css.flatten.drop (q*r.n)).length=(rows.length-q)*r.n:=by simp_all
 have hbW:W.heap[b]? =some (.cells arr ty fr):=by simp_all
 have hcA:Bb W b o (css.flatten.take (p*r.n)):=Bb.heap (fun j v hj=>by
  rw[AVk]at hj;split at hj
  ·exact qo j v hj
  simp_all) sV
 obtain⟨KX,q1,q2,q3⟩:=iI (B:=(List.replicate (q-p) (Eh r)).flatten) (V:=css.flatten.drop (q*r.n)) hbW (by omega) hcA;rw[hA,hB,←g5]at q1 q3
 generalize qY:(W.setCells b (o+p*r.n) (css.flatten.drop (q*r.n))).setCells b (o+(p+(rows.length-q))*r.n) ((List.replicate (q-p) (Eh r)).flatten)=w' at q1 q3
 have dX:∀c,c≠b→w'.heap[c]? =w.heap[c]?:=fun c hc=>by grind[DT]
 have hcT:∀c,E.T c→c≠b:=fun c hc e=>hbT (e▸hc)
 have hra:=((hd.take p).append (hd.drop q)).mono (w':=w') (S':=E.S) (fun _ h=>h) (fun c hc=>dX c (hcT c (hSep.st c hc))) (fun c hc=>dX c (fun e=>qO.1 (e▸(Ul AOD).subset hc)));rw[gl]at hra;have zn:l'.length=p+(rows.length-q):=by grind
 refine⟨_,b::(Fs1.take p++Fs1.drop q).flatten,rfl,rfl,?_,?_,fun c hc=> ?_,fun c hc=>dX c (hcT c hc),?_⟩
 ·have cu:css.length=rows.length:=hd.1
  have:=jC (cap:=cap) hra q1 (by
   rw[AS6,←ABb hd.2.2.1 p (by omega),←ABz hd.2.2.1 q (by omega)];intro j v hj;exact q3 j v (by grind)) (by omega) (by omega) (by simp_all)
  simp_all
 ·grind[List.nodup_cons,Ul]
 ·have AaV:w'.heap.size=w.heap.size:=by grind[DY]
  rcases AO3.1 hc with rfl|hc
  ·simp_all
  ·have hm:c∈b::Fs1.flatten:=AW6 _ ((Ul AOD).subset hc)
   exact⟨hSep.free c hm,by rw[AaV];exact hSep.lt c hm⟩
 grind[Grown.trans',CC]
end Go.Fw
end
section
namespace Go.Fw
open Go.M Go.Proofs Go.Shelf Go.RowKit Go.Lib
section
variable{P:Program} {ρ:Ren} {nm:String} {fv:Func}
theorem Qv{t:TypeId}{n:Nat}(h:(P.info? t).map (·.size)=some n):∀w,(Go.sizeOf t).run P w= .ok n w:=fun w=>by
 obtain⟨i,hi,rfl⟩:=ALe.1 h;simp[sizeOf,typeInfo,hi]
theorem YW{t:TypeId}{z:Value}(h:(P.info? t).bind (·.zero)=some z):∀w,(zeroValue t).run P w= .ok z w:=fun w=>by
 obtain⟨i,hi,hz⟩:=ALt.1 h;simp[zeroValue,typeInfo,hi,hz]
structure lY (P:Program) (ρ:Ren):Prop where
 t0:P.underlying (ρ.t 0)=some (TypeDesc.tuple #[])
 t3:P.underlying (ρ.t 3)=some (TypeDesc.int IntKind.i64)
 t4:P.underlying (ρ.t 4)=some (TypeDesc.bool)
 t24:P.underlying (ρ.t 24)=some (TypeDesc.slice (ρ.t 9))
 s0:(P.info? (ρ.t 0)).map (·.size)=some 1
 s3:(P.info? (ρ.t 3)).map (·.size)=some 1
 s4:(P.info? (ρ.t 4)).map (·.size)=some 1
 s24:(P.info? (ρ.t 24)).map (·.size)=some 1
 v0:(P.info? (ρ.t 0)).bind (·.zero)=some (Value.tuple #[])
 v3:(P.info? (ρ.t 3)).bind (·.zero)=some (Value.int IntKind.i64 0)
 v4:(P.info? (ρ.t 4)).bind (·.zero)=some (Value.bool false)
 v24:(P.info? (ρ.t 24)).bind (·.zero)=some (Value.slice none 0 0)
theorem lY.ins(h:lY P ρ)(hm:P.follows .mixedOrders=true)(f22:P.funcs[ρ.f 22]? =some { Body2.n22 ρ with name:=nm })(n22:(nm== "runtime.NumGoroutine")=false)(f29:P.funcs[ρ.f 29]? =some fv)(n29:(fv.name== "runtime.NumGoroutine")=false)
  (b29:fv.body.isNone=true) (e29:Extern.findNext fv=none) (x29:Extern.find fv=some (Extern.SlicesOverlaps.overlaps #[(ρ.t 24),(ρ.t 24)] #[(ρ.t 4)])):dL P ρ nm fv:=
 ⟨hm,f22,n22,f29,n29,b29,e29,x29,h.t0,run_isAgg_plain h.t0 rfl,Qv h.s0,YW h.v0,h.t3,run_isAgg_plain h.t3 rfl,Qv h.s3,YW h.v3,h.t4,run_isAgg_plain h.t4 rfl,Qv h.s4,YW h.v4,h.t24,run_isAgg_plain h.t24 rfl,Qv h.s24,YW h.v24⟩
theorem lY.del(h:lY P ρ)(hm:P.follows .mixedOrders=true)(f24:P.funcs[ρ.f 24]? =some { Body2.n24 ρ with name:=nm })(n24:(nm== "runtime.NumGoroutine")=false):pI P ρ nm:=
 ⟨hm,f24,n24,h.t0,run_isAgg_plain h.t0 rfl,Qv h.s0,YW h.v0,h.t3,run_isAgg_plain h.t3 rfl,Qv h.s3,YW h.v3,h.t4,run_isAgg_plain h.t4 rfl,Qv h.s4,YW h.v4,h.t24,run_isAgg_plain h.t24 rfl,Qv h.s24,YW h.v24⟩
@[reducible] def I_ (f22 f24 f29 f30 t24 t9:Nat):Ren:=⟨fun k=>if k=22 then f22 else if k=24 then f24 else if k=29 then f29 else if k=30 then f30 else k,fun k=>if k=24 then t24 else if k=9 then t9 else k,fun k=>k⟩
def ANG{T:Jg}(hT:Ef P T)(L:dL P ρ nm fv){r:Ty}{f:Nat}(hf:ρ.f 22=f)(UJ:T.M9 (ρ.t 24) r=true)(hr:(r.flat&&(decide (mk r=1)&&decide (0<r.n)))=true)(g:(rk r).Cu (Option (yl r).V))
  (hg:∀v:(rk r).V,(rk r).un g v=(wj v.1.2.1 v.1.2.2.1 v.2.1).map fun l=>(((),()),((),l,()))):SP P:=
 ⟨f,⟨rk r,yl r,(rk r).un g⟩,by
  simp only[ALp,AMC]at hr;rw[funext hg,←hf];grind[tJ]⟩
def AXZ{T:Jg}(hT:Ef P T)(L:pI P ρ nm){r:Ty}{f:Nat}(m:Nat)(hf:ρ.f 24=f)(UJ:T.M9 (ρ.t 24) r=true)(hr:decide (0<r.n)=true)(g:(rr (m+1) r).Cu (Option (xl (m+1) r).V))
  (hg:∀v:(rr (m+1) r).V,(rr (m+1) r).un g v=(ADx v.1.2.1 v.1.2.2.1 v.2.1).map fun l=>(((),()),((),l,()))):SP P:=
 ⟨f,⟨rr (m+1) r,xl (m+1) r,(rr (m+1) r).un g⟩,by
  rw[funext hg,←hf];exact sq hT L UJ (of_decide_eq_true hr) m⟩
end
end Go.Fw
end
