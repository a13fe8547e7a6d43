/- The framework, part 2: a checked interpreter of the model's code over abstract states; no claim is made here. -/
import Derived.Test.YtgaopeilfepjmaaGreatF0
import Derived.Below
import Derived.ChangeArms
import Derived.ChangeOld
import Derived.DataReads
import Derived.OrdersHeld
import Derived.Shelf.Slices.Delete
import Derived.Shelf.Spec.SlicesInsertGrow
import Derived.Tactics
set_option linter.unusedVariables false
set_option linter.unusedSimpArgs false
set_option linter.unusedSectionVars false
section
namespace Go.Fw
def alive(l:List BP)(i:Nat):Bool:=
 match l[i]? with
 |some .gone=>false
 |some _=>true
 |none=>false
def AP.ID(l:List BP):AP→Bool
 | .sl s _=>s
 | .ZE _=>false
 | .X9 _ _=>false
 | .cI _ _=>false
 | .ref i=>decide (i<l.length)
 | .ptr i _=>alive l i
 | .fn _ HI=>HI.all (alive l)
 |_=>true
def XP.ID(l:List BP):XP→Bool
 | .c p=>p.ID l
 | .agg q=>q.all (AP.ID l)
 | .KK q=>q.all fun| .inl p=>p.ID l| .inr q=>q.all (AP.ID l)
 | .row _=>false
def BP.ID(l:List BP):BP→Bool
 | .mem q=>q.all (AP.ID l)
 |_=>true
def kinds:List BP→List BP→Bool
 |[],_=>true
 | .mem _::l,.mem _::m=>kinds l m
 | .sl _ r::l,.sl _ q::m=>decide (r=q)&&kinds l m
 | .mem _::l,.gone::m=>kinds l m
 | .sl _ _::l,.gone::m=>kinds l m
 |_,_=>false
def YH(l:List BP):List (Nat×XP)→Bool
 |[(0,p)]=>p.ID l
 |_=>false
def Ma.ok(c:Ma):Bool:=
 kinds c.ins.ES c.outs.ES&&YH c.outs.ES c.outs.Cv&&c.outs.ES.all (BP.ID c.outs.ES)
theorem PT:∀{l m:List BP},kinds l m=true→l.length≤m.length∧ ∀(i:Nat) p,l[i]? =some p→p≠ .gone∧ ∀d r,m[i]? =some (.sl d r)→ ∃d',p= .sl d' r
 |[],m,_=>⟨by simp,fun i p h=>by simp at h⟩
 | .gone::l,[],h=>by simp[kinds]at h
 | .gone::l,_::_,h=>by simp[kinds]at h
 | .mem _::l,[],h=>by simp[kinds]at h
 | .sl _ _::l,[],h=>by simp[kinds]at h
 | .mem q::l,.mem _::m,h=>by
  obtain⟨h1,h2⟩:=PT (l:=l) (m:=m) (by simpa[kinds]using h);grind
 | .mem q::l,.gone::m,h=>by
  obtain⟨h1,h2⟩:=PT (l:=l) (m:=m) (by simpa[kinds]using h);grind
 | .mem q::l,.sl _ _::m,h=>by simp[kinds]at h
 | .sl d0 r0::l,.sl _ q::m,h=>by
  simp only[kinds,AE1,AFS]at h;obtain⟨h1,h2⟩:=PT (l:=l) (m:=m) h.2;grind
 | .sl d0 r0::l,.gone::m,h=>by
  obtain⟨h1,h2⟩:=PT (l:=l) (m:=m) (by simpa[kinds]using h);grind
 | .sl _ _::l,.mem _::m,h=>by simp[kinds]at h
def PN(P:Program)(f:Nat)(c:Ma):Prop:=
 c.ok=true∧(∀args w,(callFunc f args).run P w= .ok (.enter f args) w)∧
 ∀(E:Env) (w:World) (v:c.ins.V) (args:Array Value) (u:c.outs.V),args.size=c.ins.Cv.length→
  CD E w (Gf.mk id c.ins.ES v.2) (Gf.mk id c.ins.ES v.2) []→Jz E w (Gf.mk id c.ins.ES v.2) id c.ins.Cv v.1 args.toList→c.g v=some u→
  Calls P f args w fun e w' => ∃x E',e= .returned x∧T0 E w E' w'∧CD E' w' (Gf.mk id c.outs.ES u.2) (Gf.mk id c.outs.ES u.2) []∧
   Jz E' w' (Gf.mk id c.outs.ES u.2) id c.outs.Cv u.1 [x]∧ ∀i,i<c.ins.ES.length→alive c.outs.ES i=true→E'.FH i=E.FH i∧E'.FG i=E.FG i
theorem W_:∀x:AV,EY [] x=x
 | .ref b (s::p)=>by rfl
 | .ref b []=>rfl
 | .win b (s::p) i n=>by rfl
 | .win b [] i n=>rfl
 | .GZ b (s::p) i sz j=>by rfl
 | .GZ b [] i sz j=>rfl
 | .v _ _=>rfl
 | .sl _ _ _=>rfl
 | .nil=>rfl
 | .Fg _ _=>rfl
 | .KU _ _ _ _=>rfl
 | .fn _ _=>rfl
 | .cI _ _=>rfl
 | .kj=>rfl
 | .undef=>rfl
theorem RF:EY []=id:=funext W_
theorem fS:∀x:XV,Nt [] x=x
 | .c x=>by simp[Nt,W_]
 | .agg l=>by simp[Nt,RF]
 | .KK l=>by
  simp only[Nt,RF];congr 1
  conv=>rhs;rw[←AIj l]
  apply AHH;intro x _;cases x with
  |inl x=>simp
  |inr q=>simp
theorem eQ(m:KY)(σ:St):(σ.Q1 m).tm=σ.tm.map (Nt m):=by
 cases m with
 |nil=>
  simp only[St.Q1];have:Nt []=id:=funext fS;simp_all
 |cons _ _=>rfl
theorem ni(m:KY)(σ:St):(σ.Q1 m).bx=σ.bx.map (Bx.map (EY m)):=by
 cases m with
 |nil=>grind[St.Q1,RF,RS]
 |cons _ _=>
  rfl
theorem UG(f:AV→AV):∀(m:KY) (bx:List Bx),B3 (bx.map (Bx.map f)) m=(B3 bx m).map (Bx.map f)
 |[],_=>rfl
 |none::m,bx=>by simp only[B3];exact UG f m bx
 |some b::m,bx=>by
  simp only[B3];rw[←UG f m (bx.set b .dead),List.map_set];rfl
theorem LS:∀{m:KY} {bx:List Bx} {b:Nat},some b∉m→(B3 bx m)[b]? =bx[b]?
 |[],_,_,_=>rfl
 |none::m,bx,b,h=>by simp only[B3];exact LS (by simp_all)
 |some c::m,bx,b,h=>by
  simp only[B3];rw[LS (by simp_all),AHB (by grind)]
theorem mL{E E':Env}{w w':World}{vw vw':List Bx}{m:KY}(k:Mb E w vw E' w' (B3 vw' m))
  (hb:∀b d' r B6,some b∈m→vw'[b]? =some (.sl d' r B6)→ ∃d rows,vw[b]? =some (.sl d r rows)∧List.length B6=List.length rows∧E'.FG b=E.FG b) (hlen:vw.length≤vw'.length) {x:AV} {v:Value} (h:VR E w vw x v):VR E' w' vw' (EY m x) v:=by
 have h1:=EN k h;have Ud:∀{b'},some b'∉m→(B3 vw' m)[b']? =vw'[b']?:=fun e=>LS e
 have get:∀{b'},b'<vw.length→ ∃B,vw'[b']? =some B:=fun hl=>⟨_,AEX (by omega)⟩
 cases x with
 |v t x=>exact h1
 |sl s r x=>exact h1
 |nil=>exact h1
 |Fg c j=>exact⟨by simpa[HF]using h1.1,h1.2⟩
 |KU s r x j=>exact h1
 |fn f HI=>exact⟨fun c hc=>by simpa[HF]using h1.1 c hc,h1.2⟩
 |cI f rows=>exact h1
 |kj=>exact h1
 |undef=>trivial
 |ref c p=>
  have other:some c∉m→VR E' w' vw' (.ref c p) v:=fun e=>by
   grind[VR]
  cases p with
  |nil=>
   simp only[EY];by_cases e:some c∈m
   ·simp only[VR]at h⊢
    obtain⟨h0,h⟩:=h;refine⟨h0,?_⟩;cases hc:vw[c]? with
    |none=>simp_all
    |some B=>
     obtain⟨B',NJ⟩:=get (AEy.1 hc).1;rw[NJ];cases B' with
     |mem cs=>trivial
     |dead=>trivial
     |sl d' r B6=>
      obtain⟨d,rows,e1,e2,e3⟩:=hb c d' r B6 e NJ;rw[e1]at h;refine⟨by simp[CK],⟨_,rfl⟩,?_⟩;grind[CI]
   simp_all
  |cons s p=>
   simp only[EY];split
   ·trivial
   simp_all
 |win c p off n=>
  have other:some c∉m→VR E' w' vw' (.win c p off n) v:=fun e=>by
   grind[VR]
  cases p with
  |nil=>
   simp only[EY];by_cases e:some c∈m
   ·simp only[VR]at h⊢
    obtain⟨h0,h⟩:=h;refine⟨h0,?_⟩;cases hc:vw[c]? with
    |none=>simp_all
    |some B=>
     obtain⟨B',NJ⟩:=get (AEy.1 hc).1;rw[NJ];cases B' with
     |mem cs=>trivial
     |dead=>trivial
     |sl d' r B6=>
      obtain⟨d,rows,e1,e2,e3⟩:=hb c d' r B6 e NJ;rw[e1]at h;obtain⟨_,q,ys,a,len,cap,g1,g2,g3,g4⟩:=h;simp only[Eh,AEY,AFU]at g1;obtain⟨rfl,g1⟩:=g1;obtain rfl:=AGy g1;rw[CI]at g3;exact⟨by simp[CK],r,B6,a,len,cap,rfl,by omega,by grind[CI],g4⟩
   simp_all
  |cons s p=>
   simp only[EY];split
   ·trivial
   simp_all
 |GZ c p i sz j=>
  have other:some c∉m→VR E' w' vw' (.GZ c p i sz j) v:=fun e=>by
   grind[VR]
  cases p with
  |nil=>
   simp only[EY];by_cases e:some c∈m
   ·simp only[VR]at h⊢
    obtain⟨h0,h⟩:=h;refine⟨h0,?_⟩;cases hc:vw[c]? with
    |none=>simp_all
    |some B=>
     obtain⟨B',NJ⟩:=get (AEy.1 hc).1;rw[NJ];cases B' with
     |mem cs=>trivial
     |dead=>trivial
     |sl d' r B6=>
      obtain⟨d,rows,e1,e2,e3⟩:=hb c d' r B6 e NJ;rw[e1]at h;obtain⟨_,q,ys,bb,o,len,cap,g1,g2,g3,g4⟩:=h;simp only[Eh,AEY,AFU]at g1;obtain⟨rfl,g1⟩:=g1;obtain rfl:=AGy g1;rw[CI]at g3;exact⟨by simp[CK],r,B6,bb,o,len,cap,rfl,by omega,by grind[CI],g4⟩
   simp_all
  |cons s p=>
   simp only[EY];split
   ·trivial
   simp_all
theorem nT{E E':Env}{w w':World}{vw vw':List Bx}{m:KY}(k:∀x v,VR E w vw x v→VR E' w' vw' (EY m x) v){x:XV}{v:Value}(h:XR E w vw x v):XR E' w' vw' (Nt m x) v:=by
 cases x with
 |c x=>exact k x v h
 |agg l=>
  obtain⟨vs,rfl,Nx⟩:=h;exact⟨vs,rfl,Bh.H6 _ k Nx⟩
 |KK l=>
  obtain⟨vs,rfl,Nx⟩:=h;refine⟨vs,rfl,Bh.H6 _ (fun x v hx=> ?_) Nx⟩;cases x with
  |inl x=>exact k x v hx
  |inr q=>
   obtain⟨us,rfl,hus⟩:=hx;exact⟨us,rfl,Bh.H6 _ k hus⟩
def H7(GQ:Nat→Nat):Nat→List Bx→List Bx→List Bx
 |_,[],bx=>bx
 |i,B::l,bx=>H7 GQ (i+1) l (if GQ i<bx.length then bx.set (GQ i) B else bx++[B])
theorem Ya(GQ:Nat→Nat):∀(i:Nat) (l:List BP) (x:Gf.V l) (bx:List Bx),RX GQ i l x bx=H7 GQ i (Gf.mk GQ l x) bx
 |_,[],_,_=>rfl
 |i,p::l,x,bx=>by simp only[RX,Gf.mk,H7];exact Ya GQ (i+1) l x.2 _
structure gz (GQ:Nat→Nat) (M N:Nat):Prop where
 lt:∀k,k<M→GQ k<N
 eq:∀k,M≤k→GQ k=N+(k-M)
 inj:∀k k',k<M→k'<M→GQ k=GQ k'→k=k'
theorem gz.ABL{GQ:Nat→Nat}{M N:Nat}(h:gz GQ M N){k k':Nat}(e:GQ k=GQ k'):k=k':=by
 by_cases h1:k<M
 ·by_cases h2:k'<M
  ·exact h.inj k k' h1 h2 e
  ·have:=h.lt k h1
   have:=h.eq k' (by omega);omega
 ·by_cases h2:k'<M
  ·have:=h.lt k' h2
   have:=h.eq k (by omega);omega
  ·have:=h.eq k (by omega)
   have:=h.eq k' (by omega);omega
theorem U1{GQ:Nat→Nat}{M N:Nat}(h:gz GQ M N):∀{l:List Bx} {i:Nat} {bx:List Bx},bx.length=N+(i-M)→
  (H7 GQ i l bx).length=N+(i+l.length-M)∧(∀(j:Nat) B,l[j]? =some B→(H7 GQ i l bx)[GQ (i+j)]? =some B)∧
   ∀n,n<bx.length→(∀j,j<l.length→GQ (i+j)≠n)→(H7 GQ i l bx)[n]? =bx[n]?
 |[],i,bx,hl=>⟨by grind[H7],fun j B hj=>by simp_all,fun _ _ _=>rfl⟩
 |B::l,i,bx,hl=>by
  simp only[H7];have To:(if GQ i<bx.length then bx.set (GQ i) B else bx++[B]).length=N+(i+1-M):=by
   split
   ·rename_i IV
    by_cases hi:i<M
    ·grind
    ·have:=h.eq i (by omega);omega
   ·rename_i IV
    by_cases hi:i<M
    ·have:=h.lt i hi;omega
    grind
  have RL:(if GQ i<bx.length then bx.set (GQ i) B else bx++[B])[GQ i]? =some B:=by
   split
   ·simp_all
   ·rename_i IV
    by_cases hi:i<M
    ·grind
    ·have:=h.eq i (by omega)
     grind
  obtain⟨q1,q2,q3⟩:=U1 h (l:=l) To;refine⟨by grind,fun j C hj=> ?_,fun n hn UZ=> ?_⟩
  ·cases j with
   |zero=>
    simp at hj;subst hj;exact(q3 (GQ i) (AEy.1 RL).1 (fun j hj e=>by have:=h.ABL e;omega)).trans RL
   |succ j=>
    grind
  ·have AEc:=UZ 0 (by simp)
   rw[AHz]at AEc;rw[q3 n (by omega) (fun j hj=>by have:=UZ (j+1) (by simp_all);grind)];grind
theorem Tw{GQ:Nat→Nat}{M N:Nat}(h:gz GQ M N){E:Env}{w:World}{vw:List Bx}:∀{l:List Bx} {i:Nat} {bx:List Bx} {Fs:List AAO},bx.length=N+(i-M)→(∀k,i≤k→k<M→bx[GQ k]? =some .dead)→
  Fs.length=l.length→(∀(j:Nat) B F,l[j]? =some B→Fs[j]? =some F→bE E w vw (GQ (i+j)) B F)→CD E w vw bx Fs.flatten→CD E w vw (H7 GQ i l bx) []
 |[],i,bx,Fs,hl,hd,hF,hB,gU=>by
  grind[List.eq_nil_of_length_eq_zero,H7]
 |B::l,i,bx,F::Fs,hl,hd,hF,hB,gU=>by
  simp only[H7];have hBi:=hB 0 B F rfl rfl;rw[AHz]at hBi;have next:∀{K5},K5.length=N+(i+1-M)→(∀k,i+1≤k→k<M→K5[GQ k]? =some .dead)→CD E w vw K5 Fs.flatten→CD E w vw (H7 GQ (i+1) l K5) []:=by
   intro K5 h1 h2 h3;refine Tw h h1 h2 (by simp_all) (fun j C G hC hG=> ?_) h3;have:=hB (j+1) C G (by simp_all) (by simp_all);grind
  rw[AHt]at gU;by_cases hi:i<M
  ·have IV:=h.lt i hi
   rw[AEv (by omega)];refine next (by grind) (fun k hk1 hk2=> ?_) (gU.put (hd i (AGh _) hi) hBi);rw[AHB (fun e=>by have:=h.ABL e;omega)];grind
  ·have heq:=h.eq i (by omega)
   rw[AE4 (by omega)];have e1:GQ i=bx.length:=by omega
   rw[e1]at hBi;exact next (by grind) (fun k hk1 hk2=>by omega) (gU.push hBi)
 |_::_,_,_,[],_,_,hF,_,_=>by simp_all
structure gQ (E' E2:Env) (l:List BP) (u:Gf.V l) (ov:List Bx) (GQ:Nat→Nat):Prop where
 ids:∀i,alive l i=true→E2.FH (GQ i)=E'.FH i∧E2.FG (GQ i)=E'.FG i
 bx:∀(i:Nat) p,l[i]? =some p→ ∃y,(Gf.mk id l u)[i]? =some (p.mk id y)∧ov[GQ i]? =some (p.mk GQ y)
 S:E2.S=E'.S
theorem SB(GQ:Nat→Nat):∀{l:List BP} {u:Gf.V l} {i:Nat} {p:BP},l[i]? =some p→ ∃y:p.V,(Gf.mk id l u)[i]? =some (p.mk id y)∧(Gf.mk GQ l u)[i]? =some (p.mk GQ y)
 |q::l,u,0,p,h=>by
  simp at h;subst h;exact⟨u.1,rfl,rfl⟩
 |q::l,u,i+1,p,h=>by
  obtain⟨y,h1,h2⟩:=SB GQ (u:=u.2) (i:=i) (by simpa using h);grind[Gf.mk]
 |[],_,_,_,h=>by simp at h
theorem M_(GQ:Nat→Nat):∀{l:List BP} {u:Gf.V l},(Gf.mk GQ l u).length=l.length
 |[],_=>rfl
 |_::l,u=>by simp[Gf.mk,M_ GQ (l:=l)]
section
variable{E' E2:Env} {w:World} {l:List BP} {u:Gf.V l} {ov:List Bx} {GQ:Nat→Nat} (r:gQ E' E2 l u ov GQ)
include r
omit r in
theorem dS{i:Nat}(h:alive l i=true):∃p,l[i]? =some p∧p≠ .gone:=by
 unfold alive at h;cases e:l[i]? with
 |none=>rw[e]at h;cases h
 |some p=>
  refine⟨p,rfl,fun hp=> ?_⟩;rw[e,hp]at h;cases h
theorem jd{p:AP}{y:p.V}{v:Value}(Dg:p.ID l=true)(h:VR E' w (Gf.mk id l u) (p.mk id y) v):VR E2 w ov (p.mk GQ y) v:=by
 cases p with
 |v t=>exact h
 |sl s q=>
  simp only[AP.ID]at Dg;subst Dg;simp only[AP.mk,VR,AHL]at h⊢;rw[r.S];omega
 |nil=>exact h
 |ref i=>
  simp only[AP.ID,AFS]at Dg;obtain⟨p,hp⟩:∃p,l[i]? =some p:=⟨_,AEX Dg⟩;obtain⟨z,z1,z2⟩:=r.bx i p hp;simp only[AP.mk,VR,id]at h⊢;refine⟨h.1,?_⟩;have h2:=h.2;rw[z1]at h2;rw[z2];cases p with
  |mem q=>trivial
  |gone=>trivial
  |sl d q=>
   have hid:=(r.ids i (by simp[alive,hp])).2;grind[BP.mk]
 |ptr i j=>
  simp only[AP.ID]at Dg;obtain⟨p,hp,hg⟩:=dS Dg;obtain⟨z,z1,z2⟩:=r.bx i p hp;refine⟨(AEy.1 z2).1,?_⟩;rw[(r.ids i Dg).1];exact h.2
 |ZE q=>simp[AP.ID]at Dg
 |X9 i sz=>simp[AP.ID]at Dg
 |cI f rs=>simp[AP.ID]at Dg
 |fn f HI=>
  simp only[AP.ID,AHR]at Dg;obtain⟨h1,h2⟩:=h;refine⟨fun b hb=> ?_,?_⟩
  ·obtain⟨i,hi,rfl⟩:=AHv.1 hb
   obtain⟨p,hp,_⟩:=dS (Dg i hi);obtain⟨z,_,z2⟩:=r.bx i p hp;grind
  ·rw[h2,AHq]
   congr 2
   rw[AHq];apply AHH;intro i hi;simp only[Function.comp,id,(r.ids i (Dg i hi)).1]
 |any=>trivial
theorem Zo:∀{q:List AP} {y:P8.V q} {vs:List Value},q.all (AP.ID l)=true→XO E' w (Gf.mk id l u) (P8.mk id q y) vs→XO E2 w ov (P8.mk GQ q y) vs
 |[],_,[],_,_=>trivial
 |[],_,_::_,_,h=>h.elim
 |p::q,y,[],_,h=>h.elim
 |p::q,y,v::vs,Dg,h=>by
  simp only[AHw,AE1]at Dg;exact⟨jd r Dg.1 h.1,Zo Dg.2 h.2⟩
theorem gK:∀{q:List (AP ⊕ List AP)} {y:QN.V q} {vs:List Value},(q.all fun| .inl p=>p.ID l| .inr q=>q.all (AP.ID l))=true→Bh (TR E' w (Gf.mk id l u)) (QN.mk id q y) vs→Bh (TR E2 w ov) (QN.mk GQ q y) vs
 |[],_,[],_,_=>trivial
 |[],_,_::_,_,h=>h.elim
 | .inl p::q,y,[],_,h=>h.elim
 | .inr p::q,y,[],_,h=>h.elim
 | .inl p::q,y,v::vs,Dg,h=>by
  simp only[AHw,AE1]at Dg;exact⟨jd r Dg.1 h.1,gK Dg.2 h.2⟩
 | .inr p::q,y,v::vs,Dg,h=>by
  simp only[AHw,AE1]at Dg;obtain⟨us,e,hus⟩:=h.1;exact⟨⟨us,e,Zo r Dg.1 hus⟩,gK Dg.2 h.2⟩
theorem wJ{p:XP}{y:p.V}{v:Value}(Dg:p.ID l=true)(h:XR E' w (Gf.mk id l u) (p.mk id y) v):XR E2 w ov (p.mk GQ y) v:=by
 cases p with
 |c p=>exact jd r Dg h
 |agg q=>
  obtain⟨vs,e,Nx⟩:=h;exact⟨vs,e,Zo r Dg Nx⟩
 |row q=>simp[XP.ID]at Dg
 |KK q=>
  obtain⟨vs,e,Nx⟩:=h;exact⟨vs,e,gK r Dg Nx⟩
theorem xW{i:Nat}{p:BP}{y:p.V}{F:AAO}(hi:l[i]? =some p)(Dg:p.ID l=true)(h:bE E' w (Gf.mk id l u) i (p.mk id y) F):bE E2 w ov (GQ i) (p.mk GQ y) F:=by
 cases p with
 |mem q=>
  obtain⟨h1,arr,ty,fr,h2,h3,h4⟩:=h;have hid:=(r.ids i (by simp[alive,hi])).1;exact⟨by simp_all,arr,ty,fr,by simp_all,h3,Zo r Dg h4⟩
 |sl d q=>
  obtain⟨h1,h2⟩:=h;refine⟨h1,?_⟩;rw[(r.ids i (by simp[alive,hi])).2,r.S];omega
 |gone=>exact h
end
end Go.Fw
end
section
namespace Go.Fw
theorem ez{s:Bg}{N:Nat}{m0 m:KY}{tm:List XV}{bx:List Bx}{x:s.V}(e:s.fit N m0 tm bx=some (x,m)):∀(k:Nat) p,s.ES[k]? =some p→p≠ .gone→ ∃b B,m[k]? =some (some b)∧bx[b]? =some B∧B≠ .dead∧
  ∀d r,p= .sl d r→ ∃d' rows,B= .sl d' r rows:=by
 simp only[Bg.fit,AEz,AEx]at e;obtain⟨m1,e1,m2,e2,a,e3,c,e4,e5⟩:=e;cases e5;obtain⟨q1,q2⟩:=MM (GQ:=id) e4;grind
theorem qt(n:Nat):aw (List.replicate n none):=fun i j b h=>by
 grind
theorem jS{w:World}{B B':Nat→Prop}{w':World}{r:Ty}{v:Value}{x y:List r.D}(h:Rd w B (.sl r) [v] x)(h':Rd w' B' (.sl r) [v] y):y.length=x.length:=by
 simp only[Rd]at h h';grind
section
variable{Y:Type} {P:Program} {E:Env} {σ:St} {a:Act} {w:World} {k:K Y} {y:Y}
theorem cq{E' E2:Env}{l:List BP}{u:Gf.V l}{ov:List Bx}{GQ:Nat→Nat}(r:gQ E' E2 l u ov GQ):∀{sl:List (Nat×XP)} {z:Ef.V sl} {x:Value},
  YH l sl=true→Jz E' w (Gf.mk id l u) id sl z [x]→XR E2 w ov (Ub sl z GQ) x
 |[(0,p)],z,x,Dg,h=>by
  obtain⟨⟨v,hv,hx⟩,_⟩:=h;simp at hv;subst hv;exact wJ r Dg hx
 |[],_,_,Dg,_=>by simp[YH]at Dg
 |(_+1,_)::_,_,_,Dg,_=>by simp[YH]at Dg
 |(0,_)::_::_,_,_,Dg,_=>by simp[YH]at Dg
def Ui(c:Ma)(xs:List XV)(σ:St):AAO:=
 match c.ins.fit σ.bx.length c.ins.m0 xs (c.ins.opens σ.bx)with
 |some (_,m)=>m.filterMap id
 |none=>[]
theorem dP(h:Rel E σ a w)(s:Bg):∃E',Rel E' { σ with bx:=s.opens σ.bx } a w∧Lh [] E σ.bx w E' (s.opens σ.bx) w∧(∀(i:Nat) d r,s.ES[i]? =some (.sl d r)→E'.FG (σ.bx.length+i)= .slice none 0 0)∧
  (∀x v,XR E w σ.bx x v→XR E' w (s.opens σ.bx) x v):=by
 let E':Env:={ E with FG:=fun k=>if k<σ.bx.length then E.FG k else .slice none 0 0 }
 have hlen:σ.bx.length≤(s.opens σ.bx).length:=by simp[Bg.opens]
 have hold:∀b,b<σ.bx.length→(s.opens σ.bx)[b]? =σ.bx[b]?:=fun b hb=>by grind[Bg.opens,List.getElem?_append_left]
 have ZO:∀b,b<σ.bx.length→E'.FG b=E.FG b:=fun b hb=>by grind
 have keep:Mb E w σ.bx E' w (s.opens σ.bx):=
  ⟨hlen,fun _ _=>rfl,fun _ h=>h,fun _ h=>h,h.bx.st,fun _ _=>rfl,fun b d r rows hb e=>⟨d,rows,by simp_all,fun p hp q ys hg=>⟨hp,⟨ys,hg,rfl⟩,fun hh he=>by simp_all⟩⟩⟩
 obtain⟨Fs,⟨f1,f2⟩,f3⟩:=h.bx;refine⟨E',⟨h.JQ,h.tm.imp fun _ _ hx=>KB keep hx,?_⟩,?_,fun i d r hi=>by grind,fun x v hx=>KB keep hx⟩
 ·refine⟨Fs++List.replicate s.ES.length [],⟨by simp[Bg.opens,f1],fun n B F hB hF=> ?_⟩,?_⟩
  ·by_cases hn:n<σ.bx.length
   ·rw[hold n hn]at hB
    rw[AFy (by omega)]at hF;have:=f2 n B F hB hF;cases B with
    |mem cs=>
     obtain⟨rfl,arr,ty,fr,a1,a2,a3⟩:=this;exact⟨rfl,arr,ty,fr,a1,a2,a3.imp fun _ _ hv=>EN keep hv⟩
    |sl d r rows=>exact⟨this.1,by rw[ZO n hn];exact this.2⟩
    |dead=>exact this
   ·rw[AF_ (by omega)]at hF
    have hF':F=[]:=AHP (AGN hF);subst hF';simp only[Bg.opens]at hB;rw[AF_ (by omega),AG5,AEx]at hB;obtain⟨p,_,rfl⟩:=hB;have hh:E'.FG n= .slice none 0 0:=by grind
    cases p with
    |mem q=>rfl
    |gone=>rfl
    |sl d r=>exact⟨by omega,by rw[hh];exact aV⟩
  ·have:(Fs++List.replicate s.ES.length []).flatten=Fs.flatten:=by simp
   rw[this];exact⟨f3.nodup,f3.free,f3.lt,f3.st,f3.TQ⟩
 ·refine⟨⟨fun _ h=>h,fun _ h=>h,fun _ h=> .inl h,fun _ h=> .inl h,fun _ _=>rfl,rfl,rfl,rfl,AGh _⟩,hlen,fun b hb=>⟨rfl,ZO b hb⟩,fun b hb=> ?_,fun n B B' _ hB NJ hd=> ?_⟩
  ·grind
  ·rw[hold n (AEy.1 hB).1,hB]at NJ
   cases NJ;exact⟨OI.refl hd,fun _ _=>rfl⟩
theorem Lh.after{t:AAO}{E E' qX:Env}{bx K5 ABx:List Bx}{w w':World}(h:Lh [] E bx w E' K5 w)(hb:∀b,b<bx.length→K5[b]? =bx[b]?)(k:Lh t E' K5 w qX ABx w'):Lh t E bx w qX ABx w':=
 ⟨h.base.trans k.base,AHK h.len k.len,fun b IV=>⟨(k.ids b (AHG IV h.len)).1.trans (h.ids b IV).1,(k.ids b (AHG IV h.len)).2.trans (h.ids b IV).2⟩,fun b hd=>k.dead b (h.dead b hd),fun n B B' hn hB NJ hd=>by
  have IV:=(AEy.1 hB).1;obtain⟨k1,k2⟩:=k.frame n B B' hn (by simp_all) NJ hd;refine⟨k1,fun c hc=>k2 c ?_⟩;cases B with
  |mem cs=>simp only[jJ]at hc⊢;rw[(h.ids n IV).1];omega
  |sl d r rows=>simp only[jJ]at hc⊢;rw[(h.ids n IV).2];omega
  |dead=>exact hc⟩
def wF(c:Ma)(N:Nat)(xs:List XV)(σ:St)(k:K Y):Option Y:=
 match c.ins.fit N c.ins.m0 xs σ.bx with
 |some (v,m)=>(c.g v).bind fun u=>
  let GQ:=Qd m σ.bx.length
  let σ1:=σ.Q1 m
  k (Ub c.outs.Cv u.1 GQ) { σ1 with bx:=RX GQ 0 c.outs.ES u.2 (B3 σ1.bx m) }
 |none=>none
def km(c:Ma)(N:Nat)(xs:List XV)(σ:St):AAO:=
 match c.ins.fit N c.ins.m0 xs σ.bx with
 |some (_,m)=>m.filterMap id
 |none=>[]
theorem jv{f:Nat}{c:Ma}(hc:PN P f c)(h:Rel E σ a w){N0:Nat}(kg:∀(i:Nat) d r,c.ins.ES[i]? =some (.sl d r)→E.FG (N0+i)= .slice none 0 0){xs:List XV}{vs:List Value}(hxs:Bh (XR E w σ.bx) xs vs)(hlen:xs.length=c.ins.Cv.length)(e:wF c N0 xs σ k=some y):
  Calls P f vs.toArray w fun e w' => ∃x E' xv σ',e= .returned x∧Rel E' σ' a w'∧XR E' w' σ'.bx xv x∧Lh (km c N0 xs σ) E σ.bx w E' σ'.bx w'∧σ'.tm.length=σ.tm.length∧k xv σ' =some y:=by
 obtain⟨Dg,_,eU⟩:=hc;simp only[Ma.ok,AE1]at Dg;obtain⟨⟨hk,hslot⟩,hbo⟩:=Dg;obtain⟨hklen,hk⟩:=PT hk;unfold wF at e;split at e
 case h_2=>cases e
 rename_i v m UD;simp only[AEz]at e;obtain⟨u,hg,e⟩:=e;obtain⟨_,E1,hf⟩:=YC h.bx hxs kg (by simp[Bg.m0]) (qt _) UD;have KS:vs.toArray.size=c.ins.Cv.length:=by grind[Bh.len]
 refine(eU E1 w v vs.toArray u KS hf.boxes (by simpa using hf.Cv) hg).mono fun e' w' hR=> ?_
 obtain⟨x,E',rfl,base,⟨Fs,hFs1,hFs2⟩,Cv,oO⟩:=hR;simp only[AF5]at hFs2;obtain⟨Fk,k1,k2,k3,k4⟩:=hf.rest;have st:=h.bx.st;have TQ:=h.bx.TQ;have hM:m.length=c.ins.ES.length:=hf.len;have all:∀i,i<m.length→ ∃b B,m[i]? =some (some b)∧σ.bx[b]? =some B∧B≠ .dead∧ ∀d r,c.ins.ES[i]? =some (.sl d r)→ ∃d' rows,B= .sl d' r rows:=by
  intro i hi;have hp:c.ins.ES[i]? =some (c.ins.ES[i]'(by omega)):=AEX _;grind[ez,Option.some.inj]
 let N:=σ.bx.length
 let M:=m.length
 have vC:∀i b,m[i]? =some (some b)→Qd m N i=b:=fun i b h=>by simp[Qd,h]
 have AAF:∀i,M≤i→Qd m N i=N+(i-M):=fun i hi=>by
  grind[List.getElem?_eq_none,Qd]
 have ro:gz (Qd m N) M N:=⟨fun i hi=>by
   grind,AAF,fun i j hi hj e=>by
   obtain⟨b,B,h1,h2,_⟩:=all i hi;obtain⟨b',B',rR,sa,_⟩:=all j hj;rw[vC i b h1,vC j b' rR]at e;subst e;exact hf.inj i j b h1 rR⟩
 let E2:Env:={
   FH:=fun n=>if n<N then E.FH n else E'.FH (M+(n-N))
   FG:=fun n=>if n<N then E.FG n else E'.FG (M+(n-N))
   T:=fun c=>E.T c∨E'.S c
   S:=E'.S }
 have hS:∀c,E.S c→E'.S c:=fun d hd=>base.S d (hf.S d hd)
 have hSk:∀d∈Fk.flatten,¬E'.S d:=fun d hd hs=>by
  obtain⟨_,n2,_,n4⟩:=k3 d hd;exact(base.lM d hs).elim n2 (fun h=>h n4)
 have py:∀d,E.T d→w'.heap[d]? =w.heap[d]?:=fun d hd=>base.heap d (hf.T d hd)
 have zj:∀d∈Fk.flatten,w'.heap[d]? =w.heap[d]?:=fun d hd=>base.heap d (k3 d hd).2.2.2
 have AAu:T0 E w E2 w':=⟨fun d hd=> .inl hd,hS,fun d hd=>hd,fun d hd=>by
   rcases base.lM d hd with h|h
   ·exact hf.lM d h
   ·exact .inr fun ht=>h (hf.T d ht),py,base.os,base.tape,base.output,base.size⟩
 let vw':=Gf.mk id c.outs.ES u.2
 let Bs:=Gf.mk (Qd m N) c.outs.ES u.2
 let bk:=(B3 σ.bx m).map (Bx.map (EY m))
 have hbk:B3 (σ.Q1 m).bx m=bk:=by rw[ni,UG]
 have AIx:bk.length=N:=by simp[bk,HF,N]
 let Ry:=H7 (Qd m N) 0 Bs bk
 have AJL:RX (Qd m N) 0 c.outs.ES u.2 (B3 (σ.Q1 m).bx m)=Ry:=by rw[Ya,hbk]
 obtain⟨s1,s2,s3⟩:=U1 ro (l:=Bs) (i:=0) (bx:=bk) (by omega);have AIN:Bs.length=c.outs.ES.length:=M_ _;have Z4:σ.bx.length≤Ry.length:=by
  grind
 have rn:gQ E' E2 c.outs.ES u.2 Ry (Qd m N):=by
  refine⟨fun i hi=> ?_,fun i p hp=> ?_,rfl⟩
  ·by_cases uA:i<M
   ·obtain⟨b,B,h1,h2,_⟩:=all i uA
    have zE:b<N:=(AEy.1 h2).1;have g1:=hf.ids i b h1;grind
   grind
  ·obtain⟨z,z1,z2⟩:=SB (Qd m N) (u:=u.2) hp
   grind
 have pS:∀n,n<N→some n∉m→Ry[n]? =bk[n]?:=fun n hn hm=>by
  grind
 have keep:Mb E w σ.bx E2 w' (B3 Ry m):=by
  refine⟨by rw[HF];omega,fun b hb=>by grind,fun d hd=> .inl hd,hS,st,py,fun b d r rows hb hq=> ?_⟩;have hbm:some b∉m:=fun hm=>by grind[Om]
  rw[LS hbm,pS b hb hbm]at hq;have hq1:=o9 hq;have hq2:σ.bx[b]? =some (.sl d r rows):=by
   rcases MG (Dx.refl σ.bx) b _ hq1 with e|e
   all_goals grind
  refine⟨d,rows,hq2,fun p hp q ys yv=>⟨hp,⟨ys,yv,rfl⟩,fun h' hh=> ?_⟩⟩;have hFk:Fk[b]? =some (Fk[b]'(by rw[k1.1,HF];omega)):=AEX _;obtain⟨_,ho⟩:=k1.2 b _ _ hq1 hFk;have e2:E2.FG b=E.FG b:=by grind
  grind[fK,List.mem_flatten,List.mem_of_getElem?]
 have vr:∀x v,VR E w σ.bx x v→VR E2 w' Ry (EY m x) v:=fun x v hx=>by
  refine mL keep (fun b d' r B6 hbm hq=> ?_) Z4 hx;obtain⟨i,hi,uA⟩:=AHD hbm;have xE:m[i]? =some (some b):=by grind
  obtain⟨b',B,h1,h2,h3,h4⟩:=all i hi;rw[xE]at h1;cases h1;have hio:i<c.outs.ES.length:=by omega
  have hp:c.outs.ES[i]? =some c.outs.ES[i]:=AEX hio;obtain⟨z,z1,z2⟩:=rn.bx i _ hp;rw[vC i b xE,hq]at z2;have AGL:c.ins.ES[i]? =some (c.ins.ES[i]'(by omega)):=AEX _
  generalize c.outs.ES[i]=po at z hp z1 z2
  cases po with
  |mem q=>simp[BP.mk]at z2
  |gone=>simp[BP.mk]at z2
  |sl d0 q=>
   simp only[BP.mk,AEY,Bx.sl.injEq]at z2;obtain⟨rfl,rfl,z2⟩:=z2;obtain rfl:=AGy z2;obtain⟨d1,hpo⟩:=(hk i _ AGL).2 _ _ hp;obtain⟨d2,rows,rfl⟩:=h4 d1 r (by simp_all);have zE:b<N:=(AEy.1 h2).1;have eh:E2.FG b=E.FG b:=by grind
   refine⟨d2,rows,h2,?_,eh⟩;obtain⟨F0,hR0,_⟩:=h.bx.take h2;have hFi:Fs[i]? =some (Fs[i]'(by rw[hFs1.1,M_];omega)):=AEX _;obtain⟨_,l3⟩:=hFs1.2 i _ _ z1 hFi;have lK:alive c.outs.ES i=true:=by simp[alive,hp]
   rw[(oO i (by omega) lK).2,(hf.ids i b xE).2]at l3;exact jS (P4 hR0.2) (P4 l3)
 have Ft:c.outs.ES.all (BP.ID c.outs.ES)=true:=hbo;have rel:Rel E2 { tm:=(σ.Q1 m).tm,bx:=Ry } a w':=by
  refine⟨h.JQ,?_,?_⟩
  ·rw[eQ]
   exact Bh.H6 _ (fun x v hx=>nT vr hx) h.tm
  ·refine Tw ro (Fs:=Fs) (by omega) (fun i _ hi=> ?_) (by rw[hFs1.1,M_];omega) (fun j B F hB hF=> ?_) ?_
   ·obtain⟨b,B,h1,h2,_⟩:=all i hi
    rw[vC i b h1];have zE:b<(B3 σ.bx m).length:=by grind
    have hd:(B3 σ.bx m)[b]? =some .dead:=by
     rw[AEX zE];exact congrArg some (Om (AGN h1) (AEX zE))
    simp only[bk];rw[AG5,hd];rfl
   ·rw[AHp]
    have lr:=(AEy.1 hB).1;have hp:c.outs.ES[j]? =some (c.outs.ES[j]'(by omega)):=AEX _;obtain⟨z,z1,z2⟩:=SB (Qd m N) (u:=u.2) hp;have NJ:Bs[j]? =_:=z2;rw[hB]at NJ;cases NJ;exact xW rn hp (AHR.1 Ft _ (AFj _)) (hFs1.2 j _ _ z1 hF)
   ·
    refine⟨Fk,⟨by simp[bk,k1.1],fun n B F hn hF=> ?_⟩,?_⟩
    ·simp only[bk]at hn
     rw[AG5,AEx]at hn;obtain⟨B0,hn,rfl⟩:=hn;have jM:n<N:=by grind
     have h3:=k1.2 n B0 F hn hF;have hFw:∀d∈F,w'.heap[d]? =w.heap[d]?:=fun d hd=>zj d (AHA.2 ⟨F,AGN hF,hd⟩)
     have eb:E2.FH n=E.FH n:=by grind
     have eh:E2.FG n=E.FG n:=by grind
     cases B0 with
     |mem cs=>
      obtain⟨rfl,arr,ty,fr,ha,hu,hv⟩:=h3;exact⟨by rw[eb],arr,ty,fr,by simp_all,hu,Bh.H6 _ vr hv⟩
     |sl d r rows=>
      refine⟨h3.1,?_⟩;rw[eh];exact DK hS (fun d hd=>py d (st d hd)) hFw h3.2
     |dead=>exact h3
    ·refine⟨AFX.2 ⟨k2,hFs2.nodup,fun x hx z hz he=> ?_⟩,fun d hd ht=> ?_,fun d hd=> ?_,fun d hd=> .inr hd,fun d hd=> ?_⟩
     ·subst he
      exact hFs2.free x hz (base.T x (k3 x hx).2.2.2)
     ·rcases AGf.1 hd with hd|hd
      ·grind
      ·rcases ht with ht|ht
       ·exact hFs2.free d hd (base.T d (hf.T d ht))
       ·exact hFs2.free d hd (hFs2.st d ht)
     ·rcases AGf.1 hd with hd|hd
      ·grind
      ·exact hFs2.lt d hd
     ·rcases hd with hd|hd
      ·grind
      ·exact hFs2.TQ d (hFs2.st d hd)
 have zY:Lh (km c N0 xs σ) E σ.bx w E2 Ry w':=by
  refine⟨AAu,Z4,fun n hn=>⟨by grind,by grind⟩,fun n hn=> ?_,fun n B B' hnt hB NJ kF=> ?_⟩
  rotate_left 1
  ·have jM:=(AEy.1 hB).1
   have nJ:some n∉m:=fun hm=>hnt (by
    simp only[km,UD,List.mem_filterMap];simp_all)
   rw[pS n jM nJ]at NJ;simp only[bk]at NJ;have tF:(B3 σ.bx m)[n]? =some B:=by grind[LS]
   rw[AG5,tF]at NJ;have NJ:Bx.map (EY m) B=B':=by simp_all
   have hFk:Fk[n]? =some (Fk[n]'(by rw[k1.1,HF];omega)):=AEX _;refine⟨?_,fun d hd=> ?_⟩
   ·subst NJ
    cases B with
    |mem cs=>trivial
    |sl d r rows=>rfl
    |dead=>exact absurd rfl kF
   ·rcases Ua (k1.2 n B _ tF hFk) hd with hs|hs
    all_goals grind[List.mem_flatten,List.mem_of_getElem?]
  have jM:=(AEy.1 hn).1;have nJ:some n∉m:=fun hm=>by
   obtain⟨i,hi,uA⟩:=AHD hm;grind
  rw[pS n jM nJ];simp only[bk];rw[AG5,LS nJ,hn];rfl
 refine⟨x,E2,Ub c.outs.Cv u.1 (Qd m N),{ tm:=(σ.Q1 m).tm,bx:=Ry },rfl,rel,cq rn hslot Cv,zY,by simp[eQ],?_⟩;grind
theorem mq{f:Nat}{c:Ma}(hc:PN P f c)(h:Rel E σ a w){xs:List XV}{vs:List Value}(hxs:Bh (XR E w σ.bx) xs vs)(e:YZ c xs σ k=some y):
  Calls P f vs.toArray w fun e w' => ∃x E' xv σ',e= .returned x∧Rel E' σ' a w'∧XR E' w' σ'.bx xv x∧Lh (Ui c xs σ) E σ.bx w E' σ'.bx w'∧σ'.tm.length=σ.tm.length∧k xv σ' =some y:=by
 unfold YZ at e;split at e
 case isFalse=>cases e
 rename_i hlen;obtain⟨E',h1,h2,h3,h4⟩:=dP h c.ins;have hold:∀b,b<σ.bx.length→(c.ins.opens σ.bx)[b]? =σ.bx[b]?:=fun b hb=>by grind[Bg.opens,List.getElem?_append_left]
 refine(jv (N0:=σ.bx.length) hc h1 h3 (hxs.imp fun x v hx=>h4 x v hx) hlen (k:=k) (y:=y) e).mono fun e' w' hR=> ?_
 obtain⟨x,E2,xv,σ',q0,q1,q2,q3,q4,q5⟩:=hR;exact⟨x,E2,xv,σ',q0,q1,q2,h2.after hold q3,q4,q5⟩
end
end Go.Fw
end
section
namespace Go.Fw
def Vh(P:Program)(Γ:Nat→Option Ma):Prop:= ∀f c,Γ f=some c→PN P f c
theorem cw{Γ:Nat→Option Ma}{σ:St}{o:Op}(h:bj o=false):HC (fun _=>none) σ o=HC Γ σ o:=by
 cases o with
 |call c=>
  obtain⟨callee,args,dF⟩:=c;cases callee with
  |value f=>simp[bj]at h
  |invoke _ _=>rfl
  |builtin b=>cases b<;>rfl
 |_=>rfl
theorem zm{Y:Type}{P:Program}{Γ:Nat→Option Ma}{o:Oper}{E:Env}{σ:St}{a:Act}{w:World}{k:K Y}{y:Y}{g:Nat}{c:Ma}(zK:PN P g c)(h:Rel E σ a w){f:Operand}{args:Array Operand}{dF:Array TypeId}
  (ho:o.op= .call { callee:= .value f,args:=args,argTypes:=dF }) {ps:List Value} (RQ:a.eval f= .func (.func g) #[] ps.toArray) {xs:List XV} (Ff:Bh (XR E w σ.bx) xs (args.toList.map a.eval++ps)) (ht:HC Γ σ o.op=Ui c xs σ)
  (e:YZ c xs σ k=some y) {next:Act→World→Prop} {Q:Exit→Act→World→Prop}
  (hn:∀v w' E' x σ',Rel E' σ' a w'→XR E' w' σ'.bx x v→Lh (HC Γ σ o.op) E σ.bx w E' σ'.bx w'→σ'.tm.length=σ.tm.length→k x σ' =some y→next (a.put o.dst v) w'):o.wp P a w next Q:=by
 have eU:=mq zK h Ff e;have X7:(execOp a.eval o).run P w= .ok (.enter g (args.toList.map a.eval++ps).toArray) w:=by
  have e2:(args.map a.eval)++ps.toArray=(args.toList.map a.eval++ps).toArray:=by
   simp_all
  simp only[execOp,ho,resolve,RQ,Deferred.ofValue,Sem.run_bind,Sem.run_pure,Result.andThen_ok,invoke,Array.empty_append,e2,zK.2.1]
 unfold Oper.wp;rw[X7];simp only[Oper.upon];refine eU.mono fun e w' hR=> ?_
 grind
section
variable{Y:Type} {P:Program} {T:GH} (hT:DO P T) {Γ:Nat→Option Ma} (hΓ:Vh P Γ) {o:Oper} {E:Env} {σ:St} {a:Act} {w:World} {k:K Y} {y:Y}
include hT hΓ
theorem lz(h:Rel E σ a w)(e:PF T Γ o σ k=some y){next:Act→World→Prop}{Q:Exit→Act→World→Prop}
  (hn:∀v w' E' x σ',Rel E' σ' a w'→XR E' w' σ'.bx x v→Lh (HC Γ σ o.op) E σ.bx w E' σ'.bx w'→σ'.tm.length=σ.tm.length→k x σ' =some y→next (a.put o.dst v) w'):o.wp P a w next Q:=by
 by_cases hc:bj o.op=false
 ·obtain⟨v,w',E',x,σ',hr,h1,h2,h3,h4,h5⟩:=nK hT h e hc
  rw[cw hc]at h3;unfold Oper.wp;rcases hr with hr|⟨hr,rfl⟩
  ·rw[hr]
   exact hn v w' E' x σ' h1 h2 h3 h4 h5
  ·rw[hr]
   exact hn _ w' E' x σ' h1 h2 h3 h4 h5
 ·
  unfold bj at hc;split at hc
  case h_2=>simp_all
  rename_i f args dF ho;unfold PF at e;rw[ho]at e;dsimp only at e;split at e
  case h_3=>cases e
  ·rename_i g HI hf
   split at e
   case h_2=>cases e
   rename_i c hg;have hv:=h.ev f;rw[hf]at hv;obtain⟨Rz,RQ⟩:(∀b∈HI,b<σ.bx.length)∧a.eval f= .func (.func g) #[] (HI.map fun b=>Value.pointer (some ⟨E.FH b,0,none⟩)).toArray:=hv;have zK:=hΓ g c hg;have Ff:Bh (XR E w σ.bx) (args.toList.map σ.ev++HI.map fun b=> .c (.Fg b 0)) (args.toList.map a.eval++HI.map fun b=>Value.pointer (some ⟨E.FH b,0,none⟩)):=by
    refine Bh.append (N_ h args.toList) ?_
    clear RQ hf e
    induction HI with
    |nil=>trivial
    |cons b l ih=>exact⟨⟨Rz b (by simp),rfl⟩,ih (fun c hc=>Rz c (by simp[hc]))⟩
   grind[HC,Ui,zm]
  ·rename_i g rows hf
   split at e
   case h_2=>cases e
   rename_i c hg;have hv:=h.ev f;rw[hf]at hv;obtain⟨ps,RQ,Rz⟩:∃ps:List Value,a.eval f= .func (.func g) #[] ps.toArray∧Bh (RA E w) rows ps:=hv;have zK:=hΓ g c hg;have Ff:Bh (XR E w σ.bx) (args.toList.map σ.ev++rows.map fun q=> .c (.KU false q.1 q.2 0)) (args.toList.map a.eval++ps):=by
    refine Bh.append (N_ h args.toList) ?_
    clear RQ hf e
    induction rows generalizing ps with
    |nil=>
     cases ps with
     |nil=>trivial
     |cons _ _=>exact Rz.elim
    |cons q l ih=>
     cases ps with
     |nil=>exact Rz.elim
     |cons p ps=>
      obtain⟨⟨bb,o,cs,h1,h2,h3,h4,h5⟩,Rz⟩:=Rz;exact⟨⟨bb,o,cs,h1,h2,h3,h4,h5⟩,ih ps Rz⟩
   grind[HC,Ui,zm]
end
theorem Rel.tmp{E:Env}{σ:St}{a:Act}{w:World}(h:Rel E σ a w){t:Nat}{x:XV}(e:σ.tm[t]? =some x):∃v,a.tmps[t]? =some v∧XR E w σ.bx x v:=by
 obtain⟨v,h1,h2⟩:=h.tm.get e;simp_all
def xo:Value→Option Bool
 | .bool b=>some b
 |_=>none
theorem SF{ops:Array Oper}{tmps:Array Value}{j t:Nat}(e:(ops[j]?).bind (·.dst)=some t){v:Value}(hv:tmps[t]? =some v):yielded ops tmps j=xo v:=by
 simp only[yielded,e,AE9,hv];cases v<;>rfl
theorem ar{E:Env}{w:World}{vw:List Bx}:XR E w vw (.KK []) undef:=⟨#[],rfl,trivial⟩
structure Ok (E0:Env) (w0:World) (N nb:Nat) (E:Env) (σ:St) (a:Act) (w:World):Prop where
 rel:Rel E σ a w
 base:T0 E0 w0 E w
 tm:σ.tm.length=N
 cH:nb≤σ.bx.length
 ids:∀i,i<nb→σ.bx[i]?≠some .dead→E.FH i=E0.FH i∧E.FG i=E0.FG i
theorem Ok.next{E0 E E':Env}{w0 w w':World}{N nb:Nat}{σ σ':St}{a a':Act}{t:AAO}(h:Ok E0 w0 N nb E σ a w)(hr:Rel E' σ' a' w')(hw:Lh t E σ.bx w E' σ'.bx w')(hl:σ'.tm.length=σ.tm.length):Ok E0 w0 N nb E' σ' a' w':=
 ⟨hr,h.base.trans hw.base,hl.trans h.tm,AHK h.cH hw.len,fun i hi hd=>by
  have h1:=hw.ids i (AHG hi h.cH);have h2:=h.ids i hi (fun hh=>hd (hw.dead i hh));simp_all⟩
theorem Ok.put{E0 E:Env}{w0 w:World}{N nb:Nat}{σ:St}{a:Act}(h:Ok E0 w0 N nb E σ a w)(dst:Option Tmp){x:XV}{v:Value}(hx:XR E w σ.bx x v):Ok E0 w0 N nb E (σ.put dst x) (a.put dst v) w:=by
 have e1:(σ.put dst x).bx=σ.bx:=by cases dst<;>rfl
 have e2:(σ.put dst x).tm.length=σ.tm.length:=by cases dst<;>simp[St.put]
 refine⟨h.rel.put dst hx,h.base,e2.trans h.tm,by rw[e1];exact h.cH,fun i hi hd=>h.ids i hi (by simp_all)⟩
theorem Ok.same{E0 E:Env}{w0 w:World}{N nb:Nat}{σ σ1:St}{a:Act}(h:Ok E0 w0 N nb E σ a w)(hr:Rel E σ1 a w)(hb:σ1.bx=σ.bx)(hl:σ1.tm.length=σ.tm.length):Ok E0 w0 N nb E σ1 a w:=
 ⟨hr,h.base,hl.trans h.tm,by rw[hb];exact h.cH,fun i hi hd=>h.ids i hi (by simp_all)⟩
end Go.Fw
end
section
namespace Go.Fw
section
variable{Y:Type}
abbrev k0:K (XV×St):=fun x σ=>some (x,σ)
theorem mY{op:BinOp}{κ:IntKind}{a b:Int}(k:AV→Option Y):VI op κ a b k=(VI op κ a b some).bind k:=by
 cases op<;>simp[VI]<;>split<;>rfl
theorem hU{op:BinOp}{κ:IntKind}{a b:Int}(k:AV→Option Y):QM op κ a b k=(QM op κ a b some).bind k:=by
 unfold QM;grind
theorem nA{op:BinOp}{a b:List UInt8}(k:AV→Option Y):XF op a b k=(XF op a b some).bind k:=by
 cases op<;>simp[XF]<;>split<;>rfl
theorem bn{T:GH}{t:Nat}{op:BinOp}{a b:XV}(k:AV→Option Y):hO T t op a b k=(hO T t op a b some).bind k:=by
 unfold hO;grind[hU,mY,nA]
theorem fz{op:UnOp}{a:XV}(k:AV→Option Y):v7 op a k=(v7 op a some).bind k:=by
 unfold v7;grind
theorem Rl{g:Bool}{a b:XV}(k:AV→Option Y):gH g a b k=(gH g a b some).bind k:=by
 unfold gH;grind
theorem II{len:Nat}{lo hi:Option XV}(k:Nat→Nat→Option Y):Jl len lo hi k=(Jl len lo hi fun l h=>some (l,h)).bind fun p=>k p.1 p.2:=by
 unfold Jl;grind
theorem jj{T:GH}{t:Nat}{σ:St}{x:XV}{lo hi:Option XV}(k:K Y):XW T t σ x lo hi k=(XW T t σ x lo hi k0).bind fun p=>k p.1 p.2:=by
 unfold XW;split
 ·split
  ·rw[II,II (Y:=XV×St),AH0];rfl
  ·rfl
 ·split
  ·rw[II,II (Y:=XV×St),AH0];rfl
  ·rfl
 ·split
  ·split
   ·rw[II,II (Y:=XV×St),AH0];rfl
   ·rfl
  ·rfl
 ·rfl
theorem j9{T:GH}{t:Nat}{σ:St}{x i:XV}(k:K Y):YB σ T t x i k=(YB σ T t x i k0).bind fun p=>k p.1 p.2:=by
 unfold YB;grind
theorem cv{T:GH}{t:Nat}{σ:St}{x i:XV}(k:K Y):PC T t σ x i k=(PC T t σ x i k0).bind fun p=>k p.1 p.2:=by
 unfold PC;grind
theorem nn{T:GH}{s d:Nat}{σ:St}{x:XV}(k:K Y):eO T s d σ x k=(eO T s d σ x k0).bind fun p=>k p.1 p.2:=by
 unfold eO;grind
theorem nL{T:GH}{t:Nat}{σ:St}{l c:XV}(k:K Y):du T t σ l c k=(du T t σ l c k0).bind fun p=>k p.1 p.2:=by
 grind[du]
theorem ZN{T:GH}{t n:Nat}{ps:List (Nat×XV)}{σ:St}(k:K Y):Lb T t n ps σ k=(Lb T t n ps σ k0).bind fun p=>k p.1 p.2:=by
 grind[Lb,Option.bind_assoc]
theorem ij{T:GH}{ts:Array TypeId}{σ:St}{a x:XV}(k:K Y):Uj T ts σ a x k=(Uj T ts σ a x k0).bind fun p=>k p.1 p.2:=by
 unfold Uj;split
 all_goals grind
theorem kN{T:GH}{ts:Array TypeId}{σ:St}{x:XV}(k:K Y):X0 T ts σ x k=(X0 T ts σ x k0).bind fun p=>k p.1 p.2:=by
 unfold X0;grind
theorem my{c:Ma}{xs:List XV}{σ:St}(k:K Y):YZ c xs σ k=(YZ c xs σ k0).bind fun p=>k p.1 p.2:=by
 grind[YZ,Option.bind_assoc]
theorem iz{σ:St}{x:XV}(k:K Y):SU σ x k=(SU σ x k0).bind fun p=>k p.1 p.2:=by
 unfold SU;grind
theorem nF{T:GH}{Γ:Nat→Option Ma}{o:Oper}{σ:St}(k:K Y):PF T Γ o σ k=(PF T Γ o σ k0).bind fun p=>k p.1 p.2:=by
 unfold PF;split
 ·rfl
 ·exact iz k
 ·split
  ·rename_i x _
   cases x<;>rfl
  ·rfl
 ·grind
 ·grind
 ·grind
 ·exact ZN k
 ·grind
 ·grind
 ·grind
 ·rw[bn,bn (Y:=XV×St),AH0];rfl
 ·rw[fz,fz (Y:=XV×St),AH0];rfl
 ·exact nn k
 ·grind
 ·exact nL k
 ·exact jj k
 ·grind
 ·grind
 ·exact j9 k
 ·exact cv k
 ·grind
 ·grind[my]
 ·grind
 ·grind[ij]
 ·grind[kN]
 ·split
  ·rw[Rl,Rl (Y:=XV×St),AH0];rfl
  ·rfl
 ·split
  ·rw[Rl,Rl (Y:=XV×St),AH0];rfl
  ·rfl
 ·rfl
theorem Xg{I:Type}[Nonempty I]{T:GH}{Γ:Nat→Option Ma}{o:Oper}{σ:St}{k:I→K Y}{y:Y}(h:∀i,PF T Γ o σ (k i)=some y):∃x σ',PF T Γ o σ k0=some (x,σ')∧ ∀i,k i x σ' =some y:=by
 obtain⟨i0⟩:= ‹Nonempty I›;have h0:=h i0;grind[nF,Option.bind_eq_some_iff]
end
end Go.Fw
end
section
namespace Go.Fw
def WF{α:Type}(P:Program)(s:Sem α):Prop:= ∀w v w1,s.run P w= .ok v w1→ ∀w',s.run P w' = .ok v w'
section
variable{α β:Type} {P:Program}
theorem WF.pure(x:α):WF P (Pure.pure x:Sem α):=fun w v w1 h w' =>by
 simp_all
theorem WF.bind{s:Sem α}{f:α→Sem β}(h:WF P s)(k:∀v,WF P (f v)):WF P (s >>= f):=fun w v w1 e w' =>by
 rw[Sem.run_bind]at e⊢;cases hs:s.run P w with
 |ok u w2=>
  rw[hs]at e;simp only[Result.andThen_ok]at e;rw[h w u w2 hs w'];simp only[Result.andThen_ok];exact k u w2 v w1 e w'
 |halt x w2=>
  simp_all
theorem WF.halt(x:Halt):WF P (.halt x:Sem α):=fun w v w1 e w' =>by simp_all
theorem WF.program:WF P program:=fun w v w1 e w' =>by
 simp_all
theorem WF.typeInfo(t:TypeId):WF P (typeInfo t):=WF.bind WF.program fun p=>by
 split
 ·exact WF.pure _
 ·exact WF.halt _
theorem WF.underlying(t:TypeId):WF P (underlying t):=WF.bind WF.program fun p=>by
 split
 ·exact WF.pure _
 ·exact WF.halt _
theorem WF.sizeOf(t:TypeId):WF P (Go.sizeOf t):=WF.bind (WF.typeInfo t) fun _=>WF.pure _
theorem WF.isAgg(t:TypeId):WF P (isAgg t):=WF.bind (WF.underlying t) fun d=>by
 grind[WF.pure]
theorem WF.zeroValue(t:TypeId):WF P (zeroValue t):=WF.bind (WF.typeInfo t) fun i=>by
 split
 ·exact WF.pure _
 ·exact WF.halt _
theorem WF.asIntOf(v:Value):WF P (asIntOf v):=by
 unfold Go.asIntOf;split
 ·exact WF.pure _
 ·exact WF.halt _
 ·exact WF.halt _
theorem WF.asBool(v:Value):WF P (asBool v):=by
 unfold Go.asBool;split
 ·exact WF.pure _
 ·exact WF.halt _
theorem WF.asAgg(v:Value):WF P (asAgg v):=by
 unfold Go.asAgg;split
 ·exact WF.pure _
 ·exact WF.halt _
theorem WF.sureAddr(v:Value):WF P (Instr.sureAddr v):=by
 unfold Instr.sureAddr;split
 ·exact WF.pure _
 ·exact WF.halt _
theorem WF.hI{s:Sem α}(h:∀w v w1,s.run P w≠ .ok v w1):WF P s:=fun w v w1 e=>absurd e (h w v w1)
theorem Pv{s:Sem α}{f:α→Sem β}(h:∀x w v w1,(f x).run P w≠ .ok v w1):∀w v w1,(s >>= f).run P w≠ .ok v w1:=fun w v w1 e=>by
 rw[Sem.run_bind]at e;cases hs:s.run P w with
 |ok u w2=>simp_all
 |halt x w2=>simp_all
theorem V0(x:Halt):∀w v w1,(.halt x:Sem α).run P w≠ .ok v w1:=fun w v w1 e=>by simp_all
theorem YQ(e:RuntimeError):∀w v w1,(runtimePanic e:Sem α).run P w≠ .ok v w1:=by
 unfold runtimePanic;refine Pv fun p=> ?_
 dsimp only;split<;>first
  |exact V0 _
  |exact Pv fun _=>Pv fun _=>V0 _
  |exact Pv fun _=>V0 _
theorem WF.bounds(k:IntKind)(x y:Int)(c:BoundsCode):WF P (boundsPanic k x y c:Sem α):=WF.hI (by
 grind[boundsPanic,Pv,YQ])
theorem WF.part(t:TypeId)(cs:Array Value)(o:Nat):WF P (part t cs o):=WF.bind (WF.isAgg t) fun b=>by
 split
 ·grind[WF.bind,WF.sizeOf,WF.pure]
 ·split
  ·exact WF.pure _
  ·exact WF.halt _
theorem WF.field(t:TypeId)(x:Value)(f:Nat):WF P (Instr.field t x f):=WF.bind (WF.underlying t) fun d=>by
 split
 ·split
  ·grind[WF.bind,WF.asAgg,WF.part]
  ·exact WF.halt _
 ·exact WF.halt _
theorem WF.indexAt(t:TypeId)(x i:Value):WF P (Instr.indexAt t x i):=WF.bind (WF.asIntOf i) fun q=>by
 obtain⟨k,i⟩:=q;dsimp only;refine WF.bind (WF.underlying t) fun d=> ?_
 have rest:∀q:Option Addr×Nat×TypeId,WF P (do
   let d←Go.underlying t
   match q.1 with
   |some a=>
    if 0≤i∧i<(q.2.1:Int)then do
     let s←Go.sizeOf q.2.2
     Pure.pure (Value.pointer (some (a.add (i.toNat*s))))
    else if(decide (q.2.1≤1)&&(match d with| .array .. =>true|_=>false))=true then unsupported (.noEntry "op/indexAddr.an index out of range at an array of length 0 or 1 (ledger 616)")
    else boundsPanic k i q.2.1 .index
   |none=>boundsPanic k i 0 .index:Sem Value):=fun q=>by
  refine WF.bind (WF.underlying t) fun d=> ?_
  split
  ·split
   ·grind[WF.bind,WF.sizeOf,WF.pure]
   ·repeat' split
    all_goals first|exact WF.halt _|exact WF.bounds _ _ _ _
  grind[WF.bounds]
 split
 ·exact WF.bind (WF.sureAddr _) fun _=>WF.bind (WF.pure _) fun q=>rest q
 ·exact WF.bind (WF.pure _) fun q=>rest q
 ·exact WF.bind (WF.halt _) fun q=>rest q
theorem WF.index(t:TypeId)(x i:Value):WF P (Instr.index t x i):=WF.bind (WF.asIntOf i) fun q=>by
 obtain⟨k,i⟩:=q;dsimp only;refine WF.bind (WF.underlying t) fun d=> ?_
 split
 ·grind[WF.bind,WF.sizeOf,WF.part,WF.bounds]
 ·grind[WF.pure,WF.bounds]
 ·exact WF.halt _
theorem WF.extract(x:Value)(i:Nat):WF P (Instr.extract x i):=by
 unfold Instr.extract;split
 ·split
  ·exact WF.pure _
  ·exact WF.halt _
 ·exact WF.halt _
theorem WF.sliceBound(x:Value)(y:Nat)(c:BoundsCode):WF P (Instr.sliceBound x y c):=WF.bind (WF.asIntOf x) fun q=>by
 grind[WF.pure,WF.bounds]
theorem WF.sliceBounds(b:Bool)(len cap:Nat)(l h:Option Value):WF P (Instr.sliceBounds b len cap l h none):=by
 cases h with
 |none=>
  cases l with
  |none=>exact WF.bind (WF.pure _) fun _=>WF.bind (WF.pure _) fun _=>WF.bind (WF.pure _) fun _=>WF.pure _
  |some l=>exact WF.bind (WF.pure _) fun _=>WF.bind (WF.pure _) fun _=>WF.bind (WF.sliceBound _ _ _) fun _=>WF.pure _
 |some h=>
  cases l with
  |none=>exact WF.bind (WF.pure _) fun _=>WF.bind (WF.sliceBound _ _ _) fun _=>WF.bind (WF.pure _) fun _=>WF.pure _
  |some l=>exact WF.bind (WF.pure _) fun _=>WF.bind (WF.sliceBound _ _ _) fun _=>WF.bind (WF.sliceBound _ _ _) fun _=>WF.pure _
theorem WF.asAddr(v:Value):WF P (asAddr v):=by
 unfold Go.asAddr;split
 ·exact WF.pure _
 ·exact WF.hI (YQ _)
 ·exact WF.halt _
theorem WF.slice(t:TypeId)(x:Value)(l h:Option Value):WF P (Instr.slice t x l h none):=WF.bind (WF.underlying t) fun d=>by
 split
 ·grind[WF.bind,WF.sliceBounds,WF.pure]
 ·grind[WF.bind,WF.sliceBounds,WF.sizeOf,WF.pure]
 ·refine WF.bind (WF.asAddr _) fun _=>WF.bind (WF.underlying _) fun d=> ?_
  split
  ·grind[WF.bind,WF.sliceBounds,WF.sizeOf,WF.pure]
  ·exact WF.halt _
 ·exact WF.halt _
theorem WF.sliceAt(t:TypeId)(x:Value)(l h:Option Value):WF P (Instr.sliceAt t x l h none):=WF.bind (WF.underlying t) fun d=>by
 grind[WF.bind,WF.sureAddr,WF.sliceBounds,WF.sizeOf,WF.pure,WF.slice]
theorem WF.dN{f:α→Sem β}(h:∀x,WF P (f x)):∀l:List α,WF P (l.mapM f)
 |[]=>WF.pure _
 |x::l=>by
  rw[AI6];exact WF.bind (h x) fun _=>WF.bind (WF.dN h l) fun _=>WF.pure _
theorem WF.mapM{f:α→Sem β}(h:∀x,WF P (f x))(a:Array α):WF P (a.mapM f):=by
 rw[Array.mapM_eq_mapM_toList,←bind_pure_comp];grind[WF.bind,WF.dN,WF.pure]
theorem WF.build(t:TypeId)(ps:Array (Nat×Value)):WF P (Instr.build t ps):=WF.bind (WF.zeroValue t) fun z=>by
 refine WF.bind (WF.underlying t) fun d=> ?_
 split
 ·refine WF.bind (WF.mapM (fun f=>WF.bind (WF.sizeOf _) fun _=>WF.pure _) _) fun _=> ?_
  split
  ·exact WF.pure _
  ·exact WF.halt _
 ·refine WF.bind (WF.sizeOf _) fun _=> ?_
  split
  ·exact WF.pure _
  ·exact WF.halt _
 ·exact WF.halt _
end
end Go.Fw
end
section
namespace Go.Fw
def Kof(hint:AAO)(E:Env)(w:World)(bx:List Bx)(c:Nat):Prop:=E.T c∨ ∃n B,n∈hint∧bx[n]? =some B∧jJ E w n B c
def aB(K:Nat→Prop)(w w':World):Prop:= ∀c,K c→w'.heap[c]? =w.heap[c]?
theorem lB{w:World}{B:Nat→Prop}:∀{p:List O7} {r:Ty} {h:Value} {rows:List r.D} {q:Ty} {ys:List q.D} {bb o len cap i:Nat},Rd w B (.sl r) [h] rows→CK r rows p→Eh r rows p=some ⟨q,ys⟩→
  F4 w h p=some (.slice (some ⟨bb,o,none⟩) len cap)→i<ys.length→RB w (.sl r) [h] rows bb
 |[],r,h,rows,q,ys,bb,o,len,cap,i,hr,hp,hg,hh,hi=>by
  rw[CI]at hh;cases hh;simp only[Eh,AEY,AFU]at hg;obtain⟨rfl,hg⟩:=hg;obtain rfl:=AGy hg;simp only[RB];grind
 |s::p,r,h,rows,q,ys,bb,o,len,cap,i,hr,hp,hg,hh,hi=>by
  simp only[CK]at hp;obtain⟨hsi,KS,hp⟩:=hp;simp only[Rd]at hr;obtain⟨a,cap',e1,_,hr⟩:=hr;obtain rfl:=(List.cons.inj e1).1;rcases hr with hr|⟨b',o',rfl,hb,hr⟩
  ·omega
  obtain⟨cs,hl,hc,hrow⟩:=hr s.i _ (Lg hsi);simp only[Eh]at hg;split at hg
  case h_2=>cases hg
  rename_i q' x Vj;rw[Vj]at hp;dsimp only at hp;obtain⟨v,hv,hrv⟩:=Uk hrow Vj;have vP:=hc _ _ hv;rw[←KS]at vP;simp only[F4,vP]at hh;have:=lB hrv hp hg hh hi;simp only[RB];refine⟨b',o',_,cap',rfl,by omega,.inr ⟨s.i,_,cs,Lg hsi,hl,hc,?_⟩⟩;clear hc vP e1 hr;exact RB_cell hrow Vj hv this
where
 RB_cell {w:World} {B:Nat→Prop} {c:Nat}:∀{r:Ty} {cs:List Value} {x:r.D} {j:Nat} {t:Ty} {y:t.D} {v:Value},Rd w B r cs x→Az r j x=some ⟨t,y⟩→cs[j]? =some v→RB w t [v] y c→RB w r cs x c
 | .cons c r,cs,x,0,t,y,v,h,e,hv,k=>by
  simp only[Rd]at h;obtain⟨u,l,rfl,h1,h2⟩:=h;simp only[Az,AEY,AFU]at e;obtain⟨rfl,e⟩:=e;obtain rfl:=AGy e;simp at hv;subst hv;simp only[RB];grind
 | .cons c r,cs,x,j+1,t,y,v,h,e,hv,k=>by
  simp only[Rd]at h;obtain⟨u,l,rfl,h1,h2⟩:=h;simp only[Az]at e;have:=RB_cell h2 e (by simp_all) k;simp only[RB];grind
 | .int k,cs,x,0,t,y,v,h,e,hv,k' =>by
  simp only[Az,AEY,AFU]at e;obtain⟨rfl,_⟩:=e;simp[RB]at k'
 | .bool,cs,x,0,t,y,v,h,e,hv,k' =>by
  simp only[Az,AEY,AFU]at e;obtain⟨rfl,_⟩:=e;simp[RB]at k'
 | .str,cs,x,0,t,y,v,h,e,hv,k' =>by
  simp only[Az,AEY,AFU]at e;obtain⟨rfl,_⟩:=e;simp[RB]at k'
 | .sl r,cs,x,0,t,y,v,h,e,hv,k=>by
  simp only[Az,AEY,AFU]at e;obtain⟨rfl,e⟩:=e;obtain rfl:=AGy e;have hl:=Xd h;simp only[Ty.n]at hl;obtain⟨u,rfl⟩:=List.length_eq_one_iff.1 hl;simp_all
 | .unit,_,_,_,_,_,_,_,e,_,_=>by simp[Az]at e
 | .int _,_,_,_+1,_,_,_,_,e,_,_=>by simp[Az]at e
 | .bool,_,_,_+1,_,_,_,_,e,_,_=>by simp[Az]at e
 | .str,_,_,_+1,_,_,_,_,e,_,_=>by simp[Az]at e
 | .sl _,_,_,_+1,_,_,_,_,e,_,_=>by simp[Az]at e
section
variable{P:Program} {T:GH} (hT:DO P T) {E:Env} {w:World}
include hT
theorem dU{σ:St}{Fs:List AAO}(hB:JF E w σ.bx σ.bx Fs)(st:∀c,E.S c→E.T c){t:Nat}{x:AV}{z:XV}(e:Yn T t σ (.c x)=some z){v:Value}(hx:VR E w σ.bx x v):
  ∃bb oo u y,v= .pointer (some ⟨bb,oo,none⟩)∧GP σ.bx x 0=some y∧XR E w σ.bx z u∧ ∀w',w'.heap[bb]? =w.heap[bb]?→(Instr.loadAt t v).run P w' = .ok u w':=by
 unfold Yn at e;split at e
 case h_2=>cases e
 rename_i x' ti l_ N3;cases l_;split at e
 case isTrue=>cases e
 rename_i KS;have V8:=fun w=>DO.isAgg hT N3 w
 split at e
 ·rename_i ha
  simp only[AEx]at e;obtain⟨l,hl,rfl⟩:=e;obtain⟨h1,h2⟩:=Sk hl;have h0:0<l.length:=by omega
  obtain⟨b,o,u,hv,_,_⟩:=Ho hB st (h2 0 _ (AEX h0)) hx;obtain⟨cs,c1,c2,c3⟩:=UH hB st hx hv (l:=l) (j:=0) (fun i y hy=>by simp_all);subst hv;have W5:=(hT t ti N3).pA;cases hd:ti.desc with
  |st fs=>
   rw[hd]at W5;obtain⟨fields,hu,_⟩:=W5;refine⟨b,o,.agg cs.toArray,_,rfl,by simpa using h2 0 _ (AEX h0),⟨cs.toArray,rfl,by omega⟩,fun w' hw=>run_loadAt_mid w' b o t cs _ (by have:=c2.of_block hw;grind[A_,World.rangeAt]) hu rfl ?_⟩;grind[DO.size]
  |_=>grind[TD.agg]
 ·rename_i ha
  simp only[AGX]at ha;simp only[AEx]at e;obtain⟨y,hy,rfl⟩:=e;obtain⟨b,o,u,hv,hc,hr⟩:=Ho hB st hy hx;subst hv;refine⟨b,o,u,y,rfl,hy,hr,fun w' hw=> ?_⟩;have vT:=V8 w';rw[ha]at vT;simp only[AHz]at hc;have XM:w'.cell? ⟨b,o,none⟩=some u:=by grind[World.cell?_of_block]
  simp[Instr.loadAt,Instr.sureAddr,loadVar,vT,XM]
end
theorem gg{E E':Env}{w w':World}{vw vw':List Bx}{t:Ty}{x:t.D}{v:Value}(h:VR E w vw (.v t x) v):VR E' w' vw' (.v t x) v:=by
 obtain⟨h1,h2⟩:=h;refine⟨h1,?_⟩;cases t<;>simp_all[Ty.scalar,Rd]
theorem XB{E E':Env}{w w':World}{vw vw':List Bx}{t:Ty}{x:t.D}{v u:Value}(h:VR E w vw (.v t x) v)(k:VR E' w' vw' (.v t x) u):v=u:=by
 obtain⟨h1,h2⟩:=h;obtain⟨_,k2⟩:=k;cases t<;>simp_all[Ty.scalar,Rd]
def Xr(x:XV):Prop:=(∃t z,x= .c (.v t z))∨(∃l,x= .agg l∧ ∀c∈l,∃t z,c= .v t z)
theorem IY{E E':Env}{w w':World}{vw vw':List Bx}{x:XV}{v:Value}(hp:Xr x)(h:XR E w vw x v):XR E' w' vw' x v:=by
 rcases hp with⟨t,z,rfl⟩|⟨l,rfl,hl⟩
 ·exact gg (E:=E) (w:=w) (vw:=vw) (E':=E') (w':=w') (vw':=vw') h
 ·obtain⟨vs,rfl,Nx⟩:=h
  refine⟨vs,rfl,?_⟩
  generalize vs.toList=m at Nx
  induction l generalizing m with
  |nil=>cases m with
   |nil=>trivial
   |cons _ _=>exact Nx.elim
  |cons c l ih=>cases m with
   |nil=>exact Nx.elim
   |cons u m=>
    obtain⟨t,z,rfl⟩:=hl c (by simp);exact⟨gg Nx.1,ih (fun c hc=>hl c (by simp[hc])) m Nx.2⟩
theorem fA{d:TD}{x z:AV}{p:Bool}(e:aX d x z=some p):(∃t y,x= .v t y)∧ ∃t y,z= .v t y:=by
 unfold aX at e;grind
theorem RI{T:GH}:∀{i:Nat} {fs:List ACN} {l m:List AV} {r:Bool},HV T i fs l m=some r→(∀c∈l,∃t z,c= .v t z)∧ ∀c∈m,∃t z,c= .v t z
 |i,[],[],[],r,e=>by simp
 |i,(o,t)::fs,x::l,z::m,r,e=>by
  simp only[HV]at e;split at e
  case isFalse=>cases e
  split at e
  case h_2=>cases e
  split at e
  case h_2=>cases e
  rename_i p hp;simp only[AEx]at e;obtain⟨r',e1,_⟩:=e;obtain⟨a1,a2⟩:=fA hp;obtain⟨b1,b2⟩:=RI e1;simp_all
 |_,[],[],_::_,_,e=>by simp[HV]at e
 |_,[],_::_,_,_,e=>by simp[HV]at e
 |_,_::_,[],_,_,e=>by simp[HV]at e
 |_,_::_,_::_,[],_,e=>by simp[HV]at e
theorem sZ{op:BinOp}{κ:IntKind}{a b:Int}{r:AV}(e:VI op κ a b some=some r):∃t x,r= .v t x:=by
 cases op<;>simp only[VI,AEY]at e<;>first
  |exact⟨_,_,e.symm⟩
  |(grind)
  |cases e
theorem mo{op:BinOp}{κ:IntKind}{a b:Int}{r:AV}(e:QM op κ a b some=some r):∃t x,r= .v t x:=by
 unfold QM at e;grind
theorem uW{op:BinOp}{a b:List UInt8}{r:AV}(e:XF op a b some=some r):∃t x,r= .v t x:=by
 cases op<;>simp only[XF,AEY]at e<;>first
  |exact⟨_,_,e.symm⟩
  |(
   split at e
   all_goals grind)
  |cases e
theorem w_{T:GH}{t:Nat}{op:BinOp}{a b:XV}{r:AV}(e:hO T t op a b some=some r):(∃t x,r= .v t x)∧Xr a∧Xr b:=by
 unfold hO at e;split at e
 ·refine⟨?_,.inl ⟨_,_,rfl⟩,.inl ⟨_,_,rfl⟩⟩
  grind[mo,sZ]
 ·exact⟨uW e,.inl ⟨_,_,rfl⟩,.inl ⟨_,_,rfl⟩⟩
 ·refine⟨?_,.inl ⟨_,_,rfl⟩,.inl ⟨_,_,rfl⟩⟩
  grind
 ·split at e
  ·rename_i hq
   rw[AEz]at hq;obtain⟨fs,_,hq⟩:=hq;obtain⟨q1,q2⟩:=RI hq;cases e;exact⟨⟨_,_,rfl⟩,.inr ⟨_,rfl,q1⟩,.inr ⟨_,rfl,q2⟩⟩
  ·rename_i hq
   rw[AEz]at hq;obtain⟨fs,_,hq⟩:=hq;obtain⟨q1,q2⟩:=RI hq;cases e;exact⟨⟨_,_,rfl⟩,.inr ⟨_,rfl,q1⟩,.inr ⟨_,rfl,q2⟩⟩
  simp_all
 simp_all
theorem q6{g:Bool}{a b:XV}{r:AV}(e:gH g a b some=some r):(∃t x,r= .v t x)∧Xr a∧Xr b:=by
 unfold gH at e;split at e
 ·refine⟨?_,.inl ⟨_,_,rfl⟩,.inl ⟨_,_,rfl⟩⟩
  grind
 simp_all
theorem ABm{op:UnOp}{a:XV}{r:AV}(e:v7 op a some=some r):(∃t x,r= .v t x)∧Xr a:=by
 unfold v7 at e;split at e
 ·cases e;exact⟨⟨_,_,rfl⟩,.inl ⟨_,_,rfl⟩⟩
 ·cases e;exact⟨⟨_,_,rfl⟩,.inl ⟨_,_,rfl⟩⟩
 simp_all
section
variable{Y:Type} {P:Program} {T:GH} (hT:DO P T) {Γ:Nat→Option Ma} {o:Oper} {E:Env} {σ:St} {a:Act} {w:World} {k:K Y} {y:Y}
include hT
theorem mR(h:Rel E σ a w){t:TypeId}(ps:Array (Nat×Operand)){s b:Nat}{fs:List ACN}{rw:Option Ty}(N3:T.get t=some ⟨s,b,.st fs,rw⟩){r:Ty}(hr:T.Wh t=some r)
  {cs:List AV} (hb:VN T fs (SH r) (ps.toList.map fun q=>(q.1,σ.ev q.2))=some cs):
  ∃G3,(∀w',(Instr.build t (ps.map fun(i,x)=>(i,a.eval x))).run P w' = .ok (.agg G3) w')∧XO E w σ.bx cs G3.toList:=by
 obtain⟨i,z,h1,h2,h3,_⟩:=row_zero hT hr;obtain⟨fields,hu,zN,KS⟩:=sX hT N3;obtain⟨G3,f1,f2⟩:=Sm hT (aW h ps) (arr:=z.cells) (by grind[Qh]) hb;refine⟨G3,fun w' => ?_,f2⟩;have hb:P.built t (ps.map fun(i,x)=>(i,a.eval x)).toList=some G3:=by
  unfold Program.built;simp only[h1,hu,h2];have hm:fields.toList.mapM (fun f=>(P.info? f.type).map fun i=>(f.offset,i.size))=some (fields.toList.map fun f=>(f.offset,((P.info? f.type).map (·.size)).getD 0)):=by
   grind[Z6]
  simp only[hm];rw[←f1];congr 1;funext n;subst zN;simp only[List.getElem?_toArray,AG5];cases hn:fields.toList[n]? with
  |none=>simp
  |some f=>
   obtain⟨i',JU,_⟩:=KS f (AGN hn);simp[JU]
 grind[run_build]
theorem jo{hint:AAO}(h:Rel E σ a w)(hq:Wx hint σ o.op=true)(e:PF T Γ o σ k=some y):
  ∃v x,XR E w σ.bx x v∧k x σ=some y∧ ∀w',aB (Kof hint E w σ.bx) w w'→(execOp a.eval o).run P w' = .ok (.value v) w':=by
 obtain⟨Fs,hB,hS⟩:=h.bx;have st:=hS.st;have wf:∀{s:Sem Value} {v:Value},WF P s→s.run P w= .ok v w→ ∀w',s.run P w' = .ok v w':=fun h1 h2 w' =>h1 w _ w h2 w'
 unfold PF at e;split at e
 ·rename_i x ho
  exact⟨a.eval x,_,h.ev x,e,fun w' _=>by grind[execOp,Sem.run_pure]⟩
 ·rename_i x ho
  unfold SU at e;split at e
  ·grind[Wx]
  ·exact⟨a.eval x,_,h.ev x,e,fun w' _=>by grind[execOp,Sem.run_pure]⟩
 ·rename_i c xa xb ho
  split at e
  case h_2=>cases e
  rename_i p hp;have hc:=h.ev c;rw[hp]at hc;have XM:=MU (E:=E) (w:=w) (vw:=σ.bx) hc;refine⟨if p then a.eval xa else a.eval xb,if p then σ.ev xa else σ.ev xb,by cases p<;>simp[h.ev],by grind[oU],fun w' _=>by simp[execOp,ho,XM,asBool]⟩
 ·rename_i t ho;rw[ho]at hq;cases hq
 ·rename_i t x ho;rw[ho]at hq;cases hq
 ·rename_i t ps ho
  split at e
  case h_2=>cases e
  rename_i s b fs rw r N3 hr;split at e
  case h_2=>cases e
  rename_i cs iF;obtain⟨G3,h1,h2⟩:=mR hT h ps N3 hr iF;exact⟨.agg G3,.agg cs,⟨G3,rfl,h2⟩,e,fun w' _=>by grind[execOp,Sem.run_bind,Result.andThen_ok,Sem.run_pure]⟩
 ·rename_i t n ps ho;rw[ho]at hq;cases hq
 ·rename_i t x ho
  rw[ho]at hq;split at e
  case h_2=>cases e
  rename_i z hz;have hv:=h.ev x;simp only[Wx]at hq
  generalize hX:σ.ev x=X at hq hv hz
  cases X with
  |agg l=>cases hq
  |KK l=>cases hq
  |c ad=>
   obtain⟨bb,oo,u,cell,hp,hc,h2,h3⟩:=dU hT hB st hz hv;refine⟨u,z,h2,e,fun w' dt=> ?_⟩;have uZ:w'.heap[bb]? =w.heap[bb]?:=by
    refine dt bb ?_
    have Qq:VR E w σ.bx ad (a.eval x):=hv;cases ad with
    |Fg b j=>
     simp only[Vi,AH6]at hq;simp only[GP]at hc;split at hc
     ·rename_i cs hb
      refine .inr ⟨b,_,hq,hb,?_⟩;have:=Qq.2;rw[hp]at this;simp only[Value.pointer.injEq,AEY,Addr.mk.injEq]at this;exact this.1
     simp_all
    |GZ b p i sz j=>
     simp only[Vi,AH6]at hq;simp only[GP]at hc;split at hc
     ·rename_i d q rows hb
      refine .inr ⟨b,_,hq,hb,?_⟩;simp only[VR,hb]at Qq;obtain⟨_,hpp,q1,ys,b2,o2,len,cap,g1,g2,g3,g4⟩:=Qq;rw[hp]at g4;simp only[Value.pointer.injEq,AEY,Addr.mk.injEq]at g4;obtain⟨rfl,_⟩:=g4;obtain⟨F,⟨_,yu⟩,_⟩:=hB.get hb;exact lB (P4 yu) hpp g1 g3 g2
     simp_all
    |KU s r z j=>
     obtain⟨b2,o2,cs,g1,g2,_⟩:=Qq;rw[hp]at g1;simp only[Value.pointer.injEq,AEY,Addr.mk.injEq]at g1;obtain⟨rfl,_⟩:=g1
     left
     grind
    |_=>cases hq
   grind[execOp,Sem.run_bind,Result.andThen_ok,Sem.run_pure]
 ·rename_i t xa xx ho;rw[ho]at hq;cases hq
 ·rename_i x ho
  have hx:=h.ev x;split at e
  ·rename_i b j hp
   rw[hp]at hx;have l_:b<σ.bx.length∧a.eval x= .pointer (some ⟨E.FH b,j,none⟩):=hx;grind[execOp,Sem.run_pure]
  ·rename_i b p i sz j hp
   rw[hp]at hx;have hpt:TB (a.eval x)=true:=hx.1;grind[TB,execOp,Sem.run_pure]
  ·rename_i s r z j hp
   rw[hp]at hx;obtain⟨bb,oo,cs,hv,hrest⟩:=hx;exact⟨a.eval x,.c (.KU s r z j),⟨bb,oo,cs,hv,hrest⟩,e,fun w' _=>by grind[execOp,Sem.run_pure]⟩
  ·rename_i f HI hp
   rw[hp]at hx;have l_:(∀b∈HI,b<σ.bx.length)∧a.eval x= .func (.func f) #[] (HI.map fun b=>Value.pointer (some ⟨E.FH b,0,none⟩)).toArray:=hx;grind[execOp,Sem.run_pure]
  simp_all
 ·rename_i op t x z s ho
  rw[bn,AEz]at e;obtain⟨r,e1,e⟩:=e;obtain⟨⟨t',x',rfl⟩,p1,p2⟩:=w_ e1;obtain⟨r0,val,h1,h2,h3⟩:=V4 hT e1 (h.ev x) (h.ev z) x z;cases h1;refine⟨val,.c (.v t' x'),h3,e,fun w' _=> ?_⟩;obtain⟨r1,val',g1,g2,g3⟩:=V4 hT e1 (IY (E':=E) (w':=w') (vw':=σ.bx) p1 (h.ev x)) (IY p2 (h.ev z)) x z;cases g1;have:=XB h3 g3;subst this;simp only[execOp,ho,Sem.run_bind];simp_all
 ·rename_i op t x ho
  rw[fz,AEz]at e;obtain⟨r,e1,e⟩:=e;obtain⟨⟨t',x',rfl⟩,p1⟩:=ABm e1;obtain⟨r0,val,h1,h2,h3⟩:=Xi (P:=P) e1 (h.ev x);cases h1;refine⟨val,.c (.v t' x'),h3,e,fun w' _=> ?_⟩;obtain⟨r1,val',g1,g2,g3⟩:=Xi (P:=P) e1 (IY (E':=E) (w':=w') (vw':=σ.bx) p1 (h.ev x));grind[XB,execOp,Sem.run_bind,Result.andThen_ok,Sem.run_pure]
 ·rename_i s d x ho;rw[ho]at hq;cases hq
 ·rename_i f first HI ho;rw[ho]at hq;cases hq
 ·rename_i t l c ho;rw[ho]at hq;cases hq
 ·rename_i t x lo hi ho
  obtain⟨z,val,h1,h2,h3⟩:=XA hT hB st e (h.ev x) (lE h lo) (lE h hi);exact⟨val,z,h3,h1,fun w' _=>by simp only[execOp,ho,Option.map_none,Sem.run_bind,wf (WF.sliceAt _ _ _ _) h2 w',Result.andThen_ok,Sem.run_pure]⟩
 ·rename_i t x f ho
  split at e
  case h_2=>cases e
  rename_i z hz;obtain⟨u,h1,h2⟩:=WK hT hz (h.ev x);refine⟨u,z,h2,e,fun w' _=> ?_⟩;have hw:(Instr.fieldAt t (a.eval x) f).run P w' = .ok u w':=by
   have hx:=h.ev x;unfold gE at hz;split at hz
   case h_2=>cases hz
   rename_i s b fs _ N3;split at hz
   case h_2=>cases hz
   rename_i o' u' hf;have key:∀ad,a.eval x= .pointer (some ad)→(Instr.fieldAt t (a.eval x) f).run P w' = .ok u w':=by
    intro ad had;rw[had]at h1⊢;have r1:=Nw hT (w:=w) N3 hf (a:=ad);grind[Nw]
   split at hz
   ·rename_i b' j hp
    rw[hp]at hx;exact key _ hx.2
   ·rename_i b' p i sz j hp
    rw[hp]at hx;have hpt:TB (a.eval x)=true:=hx.1;unfold TB at hpt;grind
   ·rename_i s r y' j hp
    rw[hp]at hx;obtain⟨bb,oo,cs,hv,_⟩:=hx;simp_all
   simp_all
  grind[execOp,Sem.run_bind,Result.andThen_ok,Sem.run_pure]
 ·rename_i t x f ho
  split at e
  case h_2=>cases e
  rename_i z hz;obtain⟨u,h1,h2⟩:=YU hT hz (h.ev x);exact⟨u,z,h2,e,fun w' _=>by simp only[execOp,ho,Sem.run_bind,wf (WF.field _ _ _) h1 w',Result.andThen_ok,Sem.run_pure]⟩
 ·rename_i t x i ho
  obtain⟨z,val,h1,h2,h3⟩:=Ww hT hB st e (h.ev x) (h.ev i);exact⟨val,z,h3,h1,fun w' _=>by simp only[execOp,ho,Sem.run_bind,wf (WF.indexAt _ _ _) h2 w',Result.andThen_ok,Sem.run_pure]⟩
 ·rename_i t x i ho
  obtain⟨z,val,h1,h2,h3⟩:=TH hT e (h.ev x) (h.ev i);exact⟨val,z,h3,h1,fun w' _=>by simp only[execOp,ho,Sem.run_bind,wf (WF.index _ _ _) h2 w',Result.andThen_ok,Sem.run_pure]⟩
 ·rename_i x i ho
  split at e
  case h_2=>cases e
  rename_i z hz;obtain⟨u,h1,h2⟩:=Tg (P:=P) hz (h.ev x);exact⟨u,z,h2,e,fun w' _=>by simp only[execOp,ho,Sem.run_bind,wf (WF.extract _ _) h1 w',Result.andThen_ok,Sem.run_pure]⟩
 ·rename_i f args dF ho;rw[ho]at hq;cases hq
 ·rename_i args dF ho
  split at e
  ·rename_i s t Ff xH
   obtain⟨x,rfl,hx⟩:=P2 Ff;have hv:=h.ev x;rw[hx]at hv;have Qq:=Pp (E:=E) (w:=w) (vw:=σ.bx) hv;split at e
   case isFalse=>cases e
   rename_i hs;have hu:=Pq hT hs;refine⟨.int .i64 (s.length:Int),.c (.v (.int .i64) (s.length:Int)),VR.int (E:=E) (vw:=σ.bx) _ _,e,fun w' _=> ?_⟩;have KS:(⟨s.toArray⟩:ByteArray).size=s.length:=by rfl
   simp[execOp,ho,resolve,invoke,builtin,Builtin.len_,xH,Qq,A9 hu,goInt,KS]
  ·rename_i z t _ Ff xH
   obtain⟨x,rfl,hx⟩:=P2 Ff;have hv:=h.ev x;rw[hx]at hv;split at e
   case isFalse=>cases e
   rename_i hs;split at e
   case h_2=>cases e
   rename_i n hn;obtain⟨el,hu⟩:=Xx hT hs;obtain⟨ad,cap,Qq⟩:=Yx hB st hn hv;refine⟨.int .i64 (n:Int),.c (.v (.int .i64) (n:Int)),VR.int (E:=E) (vw:=σ.bx) _ _,e,fun w' _=> ?_⟩;simp[execOp,ho,resolve,invoke,builtin,Builtin.len_,xH,Qq,A9 hu,goInt]
  simp_all
 ·rename_i args dF ho;rw[ho]at hq;cases hq
 ·rename_i args dF ho;rw[ho]at hq;cases hq
 ·rename_i args dF ho
  split at e
  case h_2=>cases e
  rename_i x1 x2 Ff;obtain⟨o1,o2,rfl,hx1,hx2⟩:=Pe Ff;have Rz:=h.ev o1;have RQ:=h.ev o2;rw[hx1]at Rz;rw[hx2]at RQ;rw[Rl,AEz]at e;obtain⟨r,e1,e⟩:=e;obtain⟨⟨t',x',rfl⟩,p1,p2⟩:=q6 e1;obtain⟨r0,val,h1,h2,h3⟩:=M7 (P:=P) (big:=true) e1 Rz RQ dF #[] o.type;cases h1;refine⟨val,.c (.v t' x'),h3,e,fun w' _=> ?_⟩;obtain⟨r1,val',g1,g2,g3⟩:=M7 (P:=P) (big:=true) e1 (IY (E':=E) (w':=w') (vw':=σ.bx) p1 Rz) (IY p2 RQ) dF #[] o.type;cases g1;have:=XB h3 g3;subst this;simp only[AHL]at g2;simp[execOp,ho,resolve,invoke,builtin,g2]
 ·rename_i args dF ho
  split at e
  case h_2=>cases e
  rename_i x1 x2 Ff;obtain⟨o1,o2,rfl,hx1,hx2⟩:=Pe Ff;have Rz:=h.ev o1;have RQ:=h.ev o2;rw[hx1]at Rz;rw[hx2]at RQ;rw[Rl,AEz]at e;obtain⟨r,e1,e⟩:=e;obtain⟨⟨t',x',rfl⟩,p1,p2⟩:=q6 e1;obtain⟨r0,val,h1,h2,h3⟩:=M7 (P:=P) (big:=false) e1 Rz RQ dF #[] o.type;cases h1;refine⟨val,.c (.v t' x'),h3,e,fun w' _=> ?_⟩;obtain⟨r1,val',g1,g2,g3⟩:=M7 (P:=P) (big:=false) e1 (IY (E':=E) (w':=w') (vw':=σ.bx) p1 Rz) (IY p2 RQ) dF #[] o.type;cases g1;have:=XB h3 g3;subst this;simp only[AE6,AGn]at g2;simp[execOp,ho,resolve,invoke,builtin,g2]
 simp_all
end
end Go.Fw
end
section
namespace Go.Fw
section
variable{P:Program} {md:Region.Mode} {ops:Array Oper} {Q:Exit→Act→World→Prop}
theorem aB.refl(K:Nat→Prop)(w:World):aB K w w:=fun _ _=>rfl
def hY(P:Program)(md:Region.Mode)(ops:Array Oper)(Q:Exit→Act→World→Prop):Nat→Array Bool→(Nat→Prop)→Act→World→Prop
 |0,listed,_,a,w=>Region.ready md ops listed=[]∧Q .normal a w
 |fuel+1,listed,K,a,w=>(Region.ready md ops listed=[]→Q .normal a w)∧
  ∀i∈Region.ready md ops listed,wpOp P ops Q i (fun a' w' => ∃K':Nat→Prop,(∀c,K c→K' c)∧aB K w w'∧hY P md ops Q fuel (listed.setIfInBounds i true) K' a' w') a w
theorem dY:∀(fuel:Nat) (listed:Array Bool) (K:Nat→Prop) (a:Act) (w:World),hY P md ops Q fuel listed K a w→wpAny P md ops Q fuel listed a w
 |0,_,_,_,_,h=>h
 |fuel+1,_,_,_,_,h=>⟨h.1,fun i hi=>wpOp_mono (fun a' w' ⟨K',_,_,h'⟩=>dY fuel _ K' a' w' h') (h.2 i hi)⟩
theorem YieldsIf.mono{S S':World→Prop}{o:Oper}{v:Value}{a:Act}(h:YieldsIf P ops S o v a)(hs:∀w,S' w→S w):YieldsIf P ops S' o v a:=
 h.imp (fun⟨h1,h2⟩=>⟨h1,fun w hw=>h2 w (hs w hw)⟩) id
theorem Ym{i:Nat}{oi:Oper}{v:Value}(hi:ops[i]? =some oi)(pz:∀(j:Nat) (o:Oper) cs b,ops[j]? =some o→o.op≠ .select cs b)(hQ:∀c a w,¬Q (.panic c) a w):
  ∀(fuel:Nat) (listed:Array Bool) (K:Nat→Prop) (a:Act) (w:World),
   (∀j oj,ops[j]? =some oj→j≠i→listed.getD j true=false→(∀e∈oj.after,Region.binds md e=true→e.on≠i)→oi.apart ops oj=true)→
   i∈Region.ready md ops listed→YieldsIf P ops (aB K w) oi v a→hY P md ops Q fuel (listed.setIfInBounds i true) K (a.put oi.dst v) w→hY P md ops Q (fuel+1) listed K a w:=by
 intro fuel
 induction fuel with
 |zero=>
  intro listed K a w _ hr hy H;refine⟨fun h=>(by simp_all),fun j hj=> ?_⟩;by_cases hji:j=i
  ·subst hji;exact hy.wpOp hi (aB.refl K w) ⟨K,fun _ h=>h,aB.refl K w,H⟩
  ·have:=ready_mono hj hji
   rw[H.1]at this;cases this
 |succ fuel ih=>
  intro listed K a w S1 hr hy H;refine⟨fun h=>(by simp_all),fun j hj=> ?_⟩;by_cases hji:j=i
  ·subst hji;exact hy.wpOp hi (aB.refl K w) ⟨K,fun _ h=>h,aB.refl K w,H⟩
  ·have h1:=H.2 j (ready_mono hj hji)
   obtain⟨hjun,oj,hoj,Ft⟩:=mem_ready.1 hj;have ABD:∀e∈oj.after,Region.binds md e=true→e.on≠i:=fun e he hb heq=>by
    grind[mem_ready,Nat.lt_or_ge,Array.getElem?_eq_none]
   have h2:=wpOp_putIf hoj (S1 j oj hoj hji hjun ABD) (fun cs b=>pz i oi cs b hi) (fun cs b=>pz j oj cs b hoj) (fun c a w h=>absurd h (hQ c _ w)) hy h1;have yn:∀k ok,ops[k]? =some ok→k≠i→(listed.setIfInBounds j true).getD k true=false→
     (∀e∈ok.after,Region.binds md e=true→e.on≠i)→oi.apart ops ok=true:=fun k ok hk hki hun q8=>by
    refine S1 k ok hk hki ?_ q8
    by_cases hjk:j=k
    all_goals simp_all
   refine wpOp_mono (fun a' w' h3=> ?_) h2;obtain⟨lu,K',hK,hs,ht⟩:=h3;refine⟨K',hK,hs,ih (listed.setIfInBounds j true) K' a' w' yn (ready_mono hr (Ne.symm hji)) (YieldsIf.mono lu fun vH AGg c hc=>(AGg c (hK c hc)).trans (hs c hc)) ?_⟩;grind[Array.setIfInBounds_comm]
end
theorem YP{Y:Type}{f:Nat→List Bool→Option Y}{y:Y}:∀{rs:AAO},(∀ω,e9 f rs ω=some y)→ ∀i∈rs,∀ω,f i ω=some y
 |[i],h,j,hj,ω=>by
  simp at hj;subst hj;exact h ω
 |i::j::r,h,k,hk,ω=>by
  rcases AGD.1 hk with rfl|hk
  ·exact h (true::ω)
  ·exact YP (rs:=j::r) (fun ω=>h (false::ω)) k hk ω
theorem im{σ:St}{t:Nat}{b:Bool}(e:σ.tm[t]? =some (.c (.v .bool b))):σ.put (some t) (.c (.v .bool b))=σ:=by
 simp only[St.put];obtain⟨tm,bx⟩:=σ;simp only[St.mk.injEq,AHM];obtain⟨IV,he⟩:=AEy.1 e;apply AH_;grind
theorem ea{Y I:Type}[Nonempty I]{C:Td}{ops:Array Oper}{o:Oper}{kn:I→St→Option Y}{σ:St}{y:Y}{E:Env}{a:Act}{w:World}(h:Rel E σ a w)
  (e:∀ω,lG C ops o (kn ω) σ=some y):
  (Region.wanted o (yielded ops a.tmps)=true∧ ∀ω,(PF C.T C.Γ o σ fun x σ' =>kn ω (σ'.put o.dst x))=some y)∨
  (Region.wanted o (yielded ops a.tmps)=false∧ ∀ω,kn ω (σ.put o.dst (.KK []))=some y):=by
 unfold lG at e;cases hg:o.guard with
 |none=>
  simp only[hg]at e;grind[Region.wanted]
 |some q=>
  obtain⟨j,want⟩:=q;simp only[hg]at e;cases ht:(ops[j]?).bind (·.dst)with
  |none=>
   simp_all
  |some t=>
   simp only[ht]at e;obtain⟨i0⟩:= ‹Nonempty I›;have e0:=e i0;split at e0
   ·rename_i b hb
    simp only[hb]at e;obtain⟨v,hv,hx⟩:=h.tmp hb;have yh:=MU (E:=E) (w:=w) (vw:=σ.bx) hx;subst yh;have hy:yielded ops a.tmps j=some b:=by rw[SF ht hv];rfl
    have hk:=im hb;cases b with
    |true=>
     simp only[AGV,tt,hk]at e;cases want with
     |true=>grind[Region.wanted]
     |false=>grind[Region.wanted]
    |false=>
     simp only[AFM,ff,hk]at e;cases want with
     |true=>grind[Region.wanted]
     |false=>grind[Region.wanted]
   ·rename_i hb
    simp only[hb]at e;obtain⟨v,hv,vs,rfl,hx⟩:=h.tmp hb;grind[yielded,SF,Region.wanted]
   simp_all
theorem oC{ops:Array Oper}{o:Oper}{σ:St}{E:Env}{a:Act}{w:World}(h:Rel E σ a w)(e:idle ops σ o=true):Region.wanted o (yielded ops a.tmps)=false:=by
 unfold idle at e;cases hg:o.guard with
 |none=>simp_all
 |some q=>
  obtain⟨j,want⟩:=q;simp only[hg]at e;cases ht:(ops[j]?).bind (·.dst)with
  |none=>simp_all
  |some t=>
   simp only[ht]at e;split at e
   ·rename_i b hb
    obtain⟨v,hv,hx⟩:=h.tmp hb;have yh:=MU (E:=E) (w:=w) (vw:=σ.bx) hx;grind[yielded,SF,Region.wanted]
   ·rename_i hb
    obtain⟨v,hv,vs,rfl,hx⟩:=h.tmp hb;grind[yielded,SF,Region.wanted]
   simp_all
theorem eT{Y I:Type}[Nonempty I]{C:Td}{ops:Array Oper}{i:Nat}{o:Oper}(ho:ops[i]? =some o){kn:I→St→Option Y}{σ:St}{y:Y}{E:Env}{a:Act}{w:World}(h:Rel E σ a w)
  (e:∀ω,lN C ops i (kn ω) σ=some y):
  (Region.wanted o (yielded ops a.tmps)=true∧ ∀ω,(PF C.T C.Γ o σ fun x σ' =>kn ω (σ'.put o.dst x))=some y)∨
  (Region.wanted o (yielded ops a.tmps)=false∧ ∀ω,kn ω (σ.put o.dst (.KK []))=some y):=
 ea h fun ω=>by
  grind[lN]
theorem rY{hint t:AAO}{E E':Env}{bx K5:List Bx}{w w':World}(h:Lh t E bx w E' K5 w')(ht:∀b∈t,b∉hint)(ha:∀b∈hint,YK K5 b=false):
  (∀c,Kof hint E w bx c→Kof hint E' w' K5 c)∧aB (Kof hint E w bx) w w':=by
 have key:∀n B,n∈hint→bx[n]? =some B→ ∃B',K5[n]? =some B'∧OI B B'∧ ∀c,jJ E w n B c→w'.heap[c]? =w.heap[c]?:=by
  intro n B hn hB;have hd:=ha n hn;unfold YK at hd;split at hd
  ·cases hd
  ·rename_i B' UZ NJ
   obtain⟨h1,h2⟩:=h.frame n B B' (fun hm=>ht n hm hn) hB NJ UZ;simp_all
  simp_all
 refine⟨fun c hc=> ?_,fun c hc=> ?_⟩
 ·rcases hc with hc|⟨n,B,hn,hB,hc⟩
  ·exact .inl (h.base.T c hc)
  ·obtain⟨B',NJ,hs,hh⟩:=key n B hn hB
   have hid:=h.ids n (AEy.1 hB).1;refine .inr ⟨n,B',hn,NJ,?_⟩;cases B with
   |mem cs=>
    cases B' with
    |mem T5=>grind[jJ]
    |sl _ _ _=>exact hs.elim
    |dead=>exact hs.elim
   |sl d r rows=>
    cases B' with
    |mem T5=>exact hs.elim
    |dead=>exact hs.elim
    |sl d' r' B6=>
     simp only[OI,AFU]at hs;obtain⟨rfl,hs⟩:=hs;obtain rfl:=AGy hs;grind[jJ,Zf]
   |dead=>exact hc.elim
 ·rcases hc with hc|⟨n,B,hn,hB,hc⟩
  ·exact h.base.heap c hc
  grind
theorem RD{Y:Type}{C:Td}{hint:AAO}{ops:Array Oper}{kn:List Bool→St→Option Y}{fuel:Nat}{listed:Array Bool}{ω:List Bool}{σ:St}{y:Y}(e:NS C hint ops kn fuel listed ω σ=some y):∀b∈hint,YK σ.bx b=false:=by
 grind[NS,List.all_eq_true]
theorem gG{Y:Type}{P:Program}{C:Td}(hT:DO P C.T)(hΓ:Vh P C.Γ){E0:Env}{w0:World}{N nb:Nat}{hint:AAO}{ops:Array Oper}{kn:List Bool→St→Option Y}{y:Y}{Q:Exit→Act→World→Prop}
  (pz:Region.noSelect ops=true) (hP:∀c a w,¬Q (.panic c) a w) (hk:∀E σ a w,Ok E0 w0 N nb E σ a w→(∀ω,kn ω σ=some y)→Q .normal a w):
  ∀(fuel:Nat) {listed:Array Bool} {E:Env} {σ:St} {a:Act} {w:World},Ok E0 w0 N nb E σ a w→(∀ω,NS C hint ops kn fuel listed ω σ=some y)→hY P .any ops Q fuel listed (Kof hint E w σ.bx) a w:=by
 intro fuel
 induction fuel with
 |zero=>
  intro listed E σ a w h e;have e1:=fun ω=>e ω
  unfold NS at e1;have lK:=RD (e []);have xX:(hint.all fun b=> !YK σ.bx b)=true:=AHR.2 fun b hb=>by simp_all
  simp only[xX,AHL]at e1;cases hr:Region.ready .any ops listed with
  |nil=>
   simp only[hr]at e1;exact⟨hr,hk E σ a w h e1⟩
  |cons i rs=>
   simp_all
 |succ fuel ih=>
  intro listed E σ a w h e;have e1:=fun ω=>e ω
  unfold NS at e1;have lK:=RD (e []);have xX:(hint.all fun b=> !YK σ.bx b)=true:=AHR.2 fun b hb=>by simp_all
  simp only[xX,AHL]at e1;cases hr:Region.ready .any ops listed with
  |nil=>
   simp only[hr]at e1;exact⟨fun _=>hk E σ a w h e1,by simp_all⟩
  |cons i0 rs=>
   simp only[hr]at e1;cases hf:(i0::rs).find? (Z_ hint ops listed σ)with
   |some i=>
    simp only[hf]at e1;have hi:=AIe hf;have ht:=List.find?_some hf
    unfold Z_ at ht;cases ho:ops[i]? with
    |none=>simp_all
    |some o=>
     simp only[ho,AE1]at ht;have S1:=Region.free_spec ho ht.2;rw[←hr]at hi;have hy:=eT (I:=List Bool) (kn:=fun ω σ' =>NS C hint ops kn fuel (listed.setIfInBounds i true) ω σ') ho h.rel e1;rcases hy with⟨hw,hx⟩|⟨hw,hx⟩
     ·have hq:Wx hint σ o.op=true:=by
       rcases AHN _ _▸ht.1 with hq|hi
       ·omega
       ·rw[oC h.rel hi]at hw
        cases hw
      obtain⟨x,σ',xK,hx1⟩:=Xg hx;obtain⟨v,x',q1,q2,q3⟩:=jo hT h.rel hq xK;simp only[k0,AEY,AG0]at q2;obtain⟨rfl,rfl⟩:=q2;have To:=ih (h.put o.dst q1) hx1;have gU:(σ.put o.dst x').bx=σ.bx:=by cases o.dst<;>rfl
      rw[gU]at To;exact Ym ho (Region.noSelect_spec pz) hP fuel listed _ a w S1 hi (.inl ⟨hw,q3⟩) To
     ·have To:=ih (h.put o.dst ar) hx
      have gU:(σ.put o.dst (.KK [])).bx=σ.bx:=by cases o.dst<;>rfl
      rw[gU]at To;exact Ym ho (Region.noSelect_spec pz) hP fuel listed _ a w S1 hi (.inr ⟨hw,rfl⟩) To
   |none=>
    simp only[hf]at e1;have Ft:=YP e1;refine⟨fun h0=>(by simp_all),fun i hi=> ?_⟩;rw[hr]at hi;have hx:=Ft i hi;cases ho:ops[i]? with
    |none=>
     simp_all
    |some o=>
     simp only[ho]at hx;have htc:(HC C.Γ σ o.op).all (fun b=> !hint.contains b)=true:=by
      have:=hx [];simp_all
     simp only[htc,AHL]at hx;have htn:∀b∈HC C.Γ σ o.op,b∉hint:=fun b hb hh=>by
      simp_all
     unfold wpOp;simp only[ho];rcases eT (I:=List Bool) (kn:=fun ω σ' =>NS C hint ops kn fuel (listed.setIfInBounds i true) ω σ') ho h.rel hx with⟨hw,hx⟩|⟨hw,hx⟩
     ·rw[AEv hw]
      obtain⟨x,σ',xK,hx1⟩:=Xg hx;refine .inl (lz hT hΓ h.rel xK fun v w' E' x' σ'' g1 g2 g3 g4 g5=> ?_);simp only[k0,AEY,AG0]at g5;obtain⟨rfl,rfl⟩:=g5;have gU:(σ''.put o.dst x').bx=σ''.bx:=by cases o.dst<;>rfl
      have AB8:=RD (hx1 []);rw[gU]at AB8;obtain⟨k1,k2⟩:=rY g3 htn AB8;have To:=ih ((h.next g1 g3 g4).put o.dst g2) hx1;grind
     ·rw[AE4 (by simp[hw])]
      have To:=ih (h.put o.dst ar) hx;have gU:(σ.put o.dst (.KK [])).bx=σ.bx:=by cases o.dst<;>rfl
      grind[aB.refl]
end Go.Fw
end
section
namespace Go.Fw
theorem Rel.heap{E:Env}{σ:St}{a:Act}{w w':World}(h:Rel E σ a w)(hw:w'.heap=w.heap):Rel E σ a w':=by
 have keep:Mb E w σ.bx E w' σ.bx:=by
  refine⟨AGh _,fun _ _=>rfl,fun _ h=>h,fun _ h=>h,h.bx.st,fun _ _=>by rw[hw],fun b d r rows hb e=>⟨d,rows,e,fun p hp q ys hg=>⟨hp,⟨ys,hg,rfl⟩,fun hh he=> ?_⟩⟩⟩;obtain⟨Fs,⟨f1,f2⟩,_⟩:=h.bx;have hF:Fs[b]? =some (Fs[b]'(by omega)):=AEX _;exact fK (f2 b _ _ e hF).2 (fun _ _=>by rw[hw]) (fun _ _=>by rw[hw]) hp hg he
 exact⟨h.JQ,h.tm.imp fun _ _ hx=>KB keep hx,h.bx.turn (fun _ _ hv=>EN keep hv) (fun _ h=>h) (fun _ _=>rfl) (fun _ _=>rfl) (fun _ _ _=>by rw[hw]) fun F hF=>⟨hF.nodup,hF.free,fun c hc=>by rw[hw];exact hF.lt c hc,hF.st,fun c hc=>by rw[hw];exact hF.TQ c hc⟩⟩
theorem Ok.drawn{E0 E:Env}{w0 w:World}{N nb:Nat}{σ:St}{a:Act}(h:Ok E0 w0 N nb E σ a w)(n:Nat):Ok E0 w0 N nb E σ a { w with drawn:=n }:=
 ⟨h.rel.heap rfl,⟨h.base.T,h.base.S,h.base.sx,h.base.lM,h.base.heap,h.base.os,h.base.tape,h.base.output,h.base.size⟩,h.tm,h.cH,h.ids⟩
theorem Xp{Y I:Type}[Nonempty I]{P:Program}{C:Td}(hT:DO P C.T)(hΓ:Vh P C.Γ){E0:Env}{w0:World}{N nb:Nat}{all:Array Oper}{kn:I→St→Option Y}{y:Y}{Q:Exit→Act→World→Prop}
  (hk:∀E σ a w,Ok E0 w0 N nb E σ a w→(∀ω,kn ω σ=some y)→Q .normal a w):∀{l:List Oper} {E:Env} {σ:St} {a:Act} {w:World},Ok E0 w0 N nb E σ a w→(∀ω,fk C all l (kn ω) σ=some y)→wpList P all Q l a w
 |[],E,σ,a,w,h,e=>hk E σ a w h e
 |o::rest,E,σ,a,w,h,e=>by
  unfold wpList;rcases ea (kn:=fun ω σ=>fk C all rest (kn ω) σ) h.rel e with⟨hw,hx⟩|⟨hw,hx⟩
  ·rw[AEv hw]
   obtain⟨x,σ',xK,hx1⟩:=Xg hx;refine .inl (lz hT hΓ h.rel xK fun v w' E' x' σ'' g1 g2 g3 g4 g5=> ?_);simp only[k0,AEY,AG0]at g5;obtain⟨rfl,rfl⟩:=g5;exact Xp hT hΓ hk ((h.next g1 g3 g4).put o.dst g2) hx1
  ·rw[AE4 (by simp[hw])]
   exact Xp hT hΓ hk (h.put o.dst ar) hx
def Jv(P:Program)(body:Code)(Q:Exit→Act→World→Prop)(a:Act)(w:World):Prop:=
 ∀(b:Frame) (k:List Item) (cs:List Frame),∃e a' w',Q e a' w'∧Arrives P (lone (b.at a (.code body:: .inLoop body::k)) cs w) b k cs e a' w'
theorem Jv.wp{P:Program}{body:Code}{Q:Exit→Act→World→Prop}{a:Act}{w:World}(h:Jv P body Q a w):(Code.loop body).wp P Q a w:=fun b k cs=>by
 obtain⟨e,a',w',hq,TK⟩:=h b k cs;exact⟨e,a',w',hq,.of_steps (.one step_loop) TK⟩
theorem Jv.uP{P:Program}{body:Code}{Q:Exit→Act→World→Prop}{a:Act}{w:World}(h:body.wp P (Exit.then (Jv P body Q) Q) a w):Jv P body Q a w:=fun b k cs=>by
 obtain⟨e,a₁,w₁,hq,TK⟩:=h b (.inLoop body::k) cs;cases e with
 |normal=>
  obtain⟨e₂,a₂,w₂,hq₂,harr₂⟩:=hq b k cs;exact⟨e₂,a₂,w₂,hq₂,.of_steps (Steps.trans TK (.one step_inLoop)) harr₂⟩
 |exit id=>exact⟨_,a₁,w₁,hq,.pass (x:= .inLoop body) rfl (fun _ _=> .inl (by simp)) TK⟩
 |goto l=>exact⟨_,a₁,w₁,hq,.pass (x:= .inLoop body) rfl (fun _ _=> .inl (by simp)) TK⟩
 |ret=>exact⟨_,a₁,w₁,hq,.pass (x:= .inLoop body) rfl (fun _ _=> .inl (by simp)) TK⟩
 |panic ch=>exact⟨_,a₁,w₁,hq,.pass (x:= .inLoop body) rfl (fun _ _=> .inl (by simp)) TK⟩
 |outgrown=>exact⟨_,a₁,w₁,hq,.pass (x:= .inLoop body) rfl (fun _ _=> .inl (by simp)) TK⟩
abbrev X3:=Exit→Act→World→Prop
def At(P:Program):Code→X3→Nat→Code→X3→Prop
 | .seq a b,Q,ℓ,body,Q' =>At P a (Exit.then (b.wp P Q) Q) ℓ body Q'∨At P b Q ℓ body Q'
 | .cond _ a b,Q,ℓ,body,Q' =>At P a Q ℓ body Q'∨At P b Q ℓ body Q'
 | .block id c,Q,ℓ,body,Q' =>At P c (Exit.inBlock id Q) ℓ body Q'
 | .loop c,Q,ℓ,body,Q' =>(first c= ℓ ∧body=c∧Q' =Q)∨At P c (Exit.then (Jv P c Q) Q) ℓ body Q'
 |_,_,_,_,_=>False
def Tm(Q:X3):Prop:= ∀c a w,¬Q (.panic c) a w
theorem Tm.then{Q:X3}(h:Tm Q)(n:Act→World→Prop):Tm (Exit.then n Q):=fun c a w hq=>h c a w hq
theorem Tm.inBlock{Q:X3}(h:Tm Q)(id:Nat):Tm (Exit.inBlock id Q):=fun c a w hq=>h c a w hq
section
variable{Y:Type} {P:Program} {C:Td} (hT:DO P C.T) (hΓ:Vh P C.Γ) (hm:P.follows .mixedOrders=true) {E0:Env} {w0:World} {N nb:Nat} {y:Y} {J:Nat→St→Option Y}
structure Good (E0:Env) (w0:World) (N nb:Nat) (y:Y) (kn:KN Y) (kx:Nat→KN Y) (kr:KN Y) (Q:X3):Prop where
 n:∀E σ a w,Ok E0 w0 N nb E σ a w→(∀ω,kn ω σ=some y)→Q .normal a w
 x:∀id E σ a w,Ok E0 w0 N nb E σ a w→(∀ω,kx id ω σ=some y)→Q (.exit id) a w
 r:∀E σ a w,Ok E0 w0 N nb E σ a w→(∀ω,kr ω σ=some y)→Q .ret a w
def ya(P:Program)(E0:Env)(w0:World)(N nb:Nat)(y:Y)(J:Nat→St→Option Y)(cd:Code)(Q:X3):Prop:=
 ∀ ℓ body Q',At P cd Q ℓ body Q'→ ∀E σ a w,Ok E0 w0 N nb E σ a w→J ℓ σ=some y→Jv P body Q' a w
include hT hΓ hm in
theorem kR:∀{cd:Code} {kn:KN Y} {kx:Nat→KN Y} {kr:KN Y} {Q:X3} {E:Env} {σ:St} {a:Act} {w:World},Tm Q→Good E0 w0 N nb y kn kx kr Q→ya P E0 w0 N nb y J cd Q→Ok E0 w0 N nb E σ a w→
  (∀ω,run C J cd kn kx kr ω σ=some y)→cd.wp P Q a w:=by
 intro cd
 induction cd with
 |skip=>intro kn kx kr Q E σ a w hp hg hj h e;exact wp_skip (hg.n E σ a w h e)
 |region id ops draw=>
  intro kn kx kr Q E σ a w hp hg hj h e;simp only[run]at e;cases draw with
  |false=>
   simp only[AE6,AGn]at e;exact wp_region_list (Xp hT hΓ hg.n h e)
  |true=>
   simp only[AHL]at e;have hs:Region.noSelect ops=true:=by
    have:=e [];split at this
    ·rename_i hh;exact hh
    ·cases this
   simp only[hs,AHL]at e;exact wp_region_any hm (dY _ _ _ _ _ (gG hT hΓ hs hp hg.n _ (h.drawn _) e))
 |seq x z ihx ihz=>
  intro kn kx kr Q E σ a w hp hg hj h e;simp only[run]at e;refine wp_seq (ihx (hp.then _) ⟨fun E σ a w h e=>ihz hp hg (fun ℓ body Q' Lk=>hj ℓ body Q' (.inr Lk)) h e,fun id E σ a w h e=>hg.x id E σ a w h e,hg.r⟩ (fun ℓ body Q' Lk=>hj ℓ body Q' (.inl Lk)) h e)
 |cond c x z ihx ihz=>
  intro kn kx kr Q E σ a w hp hg hj h e;cases c with
  |tmp t=>
   simp only[run]at e;have e0:=e [];split at e0
   ·rename_i b hb
    simp only[hb]at e;obtain⟨v,hv,hx⟩:=h.rel.tmp hb;have yh:=MU (E:=E) (w:=w) (vw:=σ.bx) hx;subst yh;have yH:a.eval (.tmp t)= .bool b:=by simp[Act.eval,AIT,hv]
    have hk:=im hb;cases b with
    |true=>
     simp only[AGV,tt,hk]at e;exact wp_cond_true yH (ihx hp hg (fun ℓ body Q' Lk=>hj ℓ body Q' (.inl Lk)) h e)
    |false=>
     simp only[AFM,ff,hk]at e;exact wp_cond_false yH (ihz hp hg (fun ℓ body Q' Lk=>hj ℓ body Q' (.inr Lk)) h e)
   ·cases e0
  |_=>cases e []
 |block id c ih=>
  intro kn kx kr Q E σ a w hp hg hj h e;simp only[run]at e;refine wp_block (ih (hp.inBlock id) ⟨hg.n,fun j E σ a w h e=> ?_,hg.r⟩ (fun ℓ body Q' Lk=>hj ℓ body Q' Lk) h e);simp only[Exit.inBlock];split
  ·rename_i hid
   simp only[hid,AHL]at e;exact hg.n E σ a w h e
  ·rename_i hid
   simp only[hid,AGn]at e;exact hg.x j E σ a w h e
 |loop body ih=>
  intro kn kx kr Q E σ a w hp hg hj h e;simp only[run]at e;exact Jv.wp (hj (first body) body Q (.inl ⟨rfl,rfl,rfl⟩) E σ a w h (e []))
 |exit id=>intro kn kx kr Q E σ a w hp hg hj h e;exact wp_exit (hg.x id E σ a w h e)
 |ret=>intro kn kx kr Q E σ a w hp hg hj h e;exact wp_ret (hg.r E σ a w h e)
 |_=>intro kn kx kr Q E σ a w hp hg hj h e;cases e []
end
end Go.Fw
end
section
namespace Go.Fw
def labels:Code→List Nat
 | .seq a b=>labels a++labels b
 | .cond _ a b=>labels a++labels b
 | .block _ c=>labels c
 | .loop c=>first c::labels c
 |_=>[]
theorem At.label{P:Program}:∀{cd:Code} {Q:X3} {ℓ :Nat} {body:Code} {Q':X3},At P cd Q ℓ body Q'→ ℓ ∈labels cd
 | .seq a b,Q,ℓ,body,Q',h=>by
  simp only[labels,AGf];exact h.imp At.label At.label
 | .cond _ a b,Q,ℓ,body,Q',h=>by
  simp only[labels,AGf];exact h.imp At.label At.label
 | .block _ c,Q,ℓ,body,Q',h=>At.label (cd:=c) h
 | .loop c,Q,ℓ,body,Q',h=>by
  simp only[labels,AGD];exact h.imp (fun h=>h.1.symm) At.label
section
variable{Y:Type} {P:Program} {C:Td} (hT:DO P C.T) (hΓ:Vh P C.Γ) (hm:P.follows .mixedOrders=true) {E0:Env} {w0:World} {N nb:Nat} {y:Y} {J:Nat→St→Option Y}
theorem Lf{ℓ :Nat}:∀{cd:Code} {kn:KN Y} {kx:Nat→KN Y} {kr:KN Y},ℓ ∉labels cd→find C J ℓ cd kn kx kr=none
 | .seq a b,kn,kx,kr,h=>by
  simp only[labels,AGf,not_or]at h;simp only[find];rw[Lf h.1];exact Lf h.2
 | .cond _ a b,kn,kx,kr,h=>by
  simp only[labels,AGf,not_or]at h;simp only[find];rw[Lf h.1];exact Lf h.2
 | .block _ c,kn,kx,kr,h=>by simp only[find];exact Lf (cd:=c) h
 | .loop c,kn,kx,kr,h=>by
  simp only[labels,AGD,not_or]at h;simp only[find];rw[AE4 (fun e=>h.1 e.symm)];exact Lf h.2
 | .skip,_,_,_,_=>rfl
 | .region _ _ _,_,_,_,_=>rfl
 | .rangeFunc _ _ _ _,_,_,_,_=>rfl
 | .exit _,_,_,_,_=>rfl
 | .scope _,_,_,_,_=>rfl
 | .label _,_,_,_,_=>rfl
 | .goto _,_,_,_,_=>rfl
 | .ret,_,_,_,_=>rfl
 | .refuse _,_,_,_,_=>rfl
include hT hΓ hm in
theorem t_{ℓ :Nat}:∀{cd:Code} {kn:KN Y} {kx:Nat→KN Y} {kr:KN Y} {Q:X3} {body:Code} {Q':X3},(labels cd).Nodup→Tm Q→Good E0 w0 N nb y kn kx kr Q→ya P E0 w0 N nb y J cd Q→At P cd Q ℓ body Q'→
  ∃kn' kx' kr',find C J ℓ cd kn kx kr=some (fun ω σ=>run C J body (fun _ σ=>J ℓ σ) kx' kr' ω σ)∧Good E0 w0 N nb y kn' kx' kr' Q'∧Tm Q'∧ya P E0 w0 N nb y J body (Exit.then (Jv P body Q') Q'):=by
 intro cd
 induction cd with
 |seq a b iha ihb=>
  intro kn kx kr Q body Q' hn hp hg hj Lk;simp only[labels,AFX]at hn;obtain⟨n1,n2,n3⟩:=hn;have hja:ya P E0 w0 N nb y J a (Exit.then (b.wp P Q) Q):=fun ℓ body Q' Lk=>hj ℓ body Q' (.inl Lk)
  have hjb:ya P E0 w0 N nb y J b Q:=fun ℓ body Q' Lk=>hj ℓ body Q' (.inr Lk)
  simp only[find];rcases Lk with Lk|Lk
  ·obtain⟨kn',kx',kr',h1,h2⟩:=iha n1 (hp.then _) (kn:=fun ω σ=>run C J b kn kx kr ω σ) (kx:=kx) (kr:=kr)
    ⟨fun E σ a w h e=>kR hT hΓ hm hp hg hjb h e,fun id E σ a w h e=>hg.x id E σ a w h e,hg.r⟩ hja Lk
   exact⟨kn',kx',kr',by rw[h1],h2⟩
  ·have: ℓ ∉labels a:=fun h=>n3 ℓ h ℓ Lk.label rfl
   rw[Lf this];exact ihb n2 hp hg hjb Lk
 |cond c a b iha ihb=>
  intro kn kx kr Q body Q' hn hp hg hj Lk;simp only[labels,AFX]at hn;obtain⟨n1,n2,n3⟩:=hn;simp only[find];rcases Lk with Lk|Lk
  ·obtain⟨kn',kx',kr',h1,h2⟩:=iha n1 hp hg (fun ℓ body Q' Lk=>hj ℓ body Q' (.inl Lk)) Lk
   exact⟨kn',kx',kr',by rw[h1],h2⟩
  ·have: ℓ ∉labels a:=fun h=>n3 ℓ h ℓ Lk.label rfl
   rw[Lf this];exact ihb n2 hp hg (fun ℓ body Q' Lk=>hj ℓ body Q' (.inr Lk)) Lk
 |block id c ih=>
  intro kn kx kr Q body Q' hn hp hg hj Lk;simp only[find];refine ih hn (hp.inBlock id) ⟨hg.n,fun j E σ a w h e=> ?_,hg.r⟩ (fun ℓ body Q' Lk=>hj ℓ body Q' Lk) Lk;simp only[Exit.inBlock];split
  ·rename_i hid
   simp only[hid,AHL]at e;exact hg.n E σ a w h e
  ·rename_i hid
   simp only[hid,AGn]at e;exact hg.x j E σ a w h e
 |loop c ih=>
  intro kn kx kr Q body Q' hn hp hg hj Lk;simp only[labels,AIS]at hn;have hj':ya P E0 w0 N nb y J c (Exit.then (Jv P c Q) Q):=fun ℓ body Q' Lk=>hj ℓ body Q' (.inr Lk)
  simp only[find];by_cases hl:first c= ℓ
  ·rw[AEv hl]
   rcases Lk with⟨_,rfl,rfl⟩|Lk
   ·exact⟨kn,kx,kr,rfl,hg,hp,hj'⟩
   ·exact absurd (hl▸Lk.label) hn.1
  ·rw[AE4 hl]
   rcases Lk with⟨h,_⟩|Lk
   ·exact absurd h hl
   ·exact ih hn.2 (hp.then _) ⟨fun E σ a w h e=>hj (first c) c Q (.inl ⟨rfl,rfl,rfl⟩) E σ a w h (e []),fun id E σ a w h e=>hg.x id E σ a w h e,hg.r⟩ hj' Lk
 |_=>intro kn kx kr Q body Q' hn hp hg hj Lk;exact Lk.elim
end
theorem XG{E:Env}{w:World}{vw:List Bx}:∀{l:List (Nat×XP)} {x:Ef.V l} {vals:List Value} {tm:List XV},Jz E w vw id l x vals→Bh (XR E w vw) tm vals→Bh (XR E w vw) (Ef.mk id l x tm) vals
 |[],_,_,_,_,h=>h
 |(i,p)::l,x,vals,tm,hs,h=>by
  obtain⟨⟨v,hv,hx⟩,hs⟩:=hs;simp only[Ef.mk];refine XG hs ?_
  have:=Bh.set (i:=i) h hx;have e:vals.set i v=vals:=by
   apply AH_;grind
  simp_all
theorem Bh.undef{E:Env}{w:World}{vw:List Bx}:∀{vals:List Value} {n:Nat},n=vals.length→Bh (XR E w vw) (List.replicate n (.c .undef)) vals
 |[],n,h=>by subst h;trivial
 |v::vals,n,h=>by
  subst h;simp only[AFq,AIB];exact⟨trivial,Bh.undef rfl⟩
theorem fm.shared{E E1:Env}{w:World}{bx:List Bx}{m:KY}{s:Bg}{x:s.V}{vals:List Value}(h:fm E w bx m s x vals E1)(hb:CD E w bx bx []):
  ∃E2,E2.FH=E1.FH∧E2.FG=E1.FG∧T0 E w E2 w∧CD E2 w (Gf.mk id s.ES x.2) (Gf.mk id s.ES x.2) []∧Jz E2 w (Gf.mk id s.ES x.2) id s.Cv x.1 vals:=by
 obtain⟨Fk,k1,k2,k3,k4⟩:=h.rest
 let E2:Env:={ E1 with S:=fun c=>E1.S c∨c∈Fk.flatten }
 have st1:=h.boxes.st;have keep:Mb E1 w (Gf.mk id s.ES x.2) E2 w (Gf.mk id s.ES x.2):=
  ⟨AGh _,fun _ _=>rfl,fun _ h=>h,fun _ h=> .inl h,st1,fun _ _=>rfl,fun b d r rows _ e=>⟨d,rows,e,fun p hp q ys hg=>⟨hp,⟨ys,hg,rfl⟩,fun _ h=>h⟩⟩⟩
 refine⟨E2,rfl,rfl,⟨h.T,fun c hc=> .inl (h.S c hc),fun c hc=> ?_,fun c hc=> ?_,fun _ _=>rfl,rfl,rfl,rfl,AGh _⟩,?_,?_⟩
 ·grind
 ·rcases hc with hc|hc
  ·exact h.lM c hc
  grind
 ·refine h.boxes.turn (E':=E2) (w':=w) (fun _ _ hv=>EN keep hv) (fun _ h=> .inl h) (fun _ _=>rfl) (fun _ _=>rfl) (fun _ _ _=>rfl) fun F hF=>⟨hF.nodup,hF.free,hF.lt,fun c hc=>hc.elim (hF.st c) fun h=>(k3 c h).2.2.2,hF.TQ⟩
 ·have:∀{l:List (Nat×XP)} {z:Ef.V l},Jz E1 w (Gf.mk id s.ES x.2) id l z vals→Jz E2 w (Gf.mk id s.ES x.2) id l z vals:=by
   intro l
   induction l with
   |nil=>intro z h;trivial
   |cons q l ih=>
    obtain⟨i,p⟩:=q;intro z h;obtain⟨⟨v,hv,hx⟩,hs⟩:=h;exact⟨⟨v,hv,KB keep hx⟩,ih hs⟩
  exact this h.Cv
theorem Vp:∀{l:List BP} {i n:Nat},(M9 i n l).length=l.length
 |[],_,_=>rfl
 |_::l,i,n=>by simp[M9,Vp (l:=l)]
theorem VZ:∀{l:List BP} {i n k b:Nat},(M9 i n l)[k]? =some (some b)→b=i+k∧b<n∧l[k]?≠some .gone
 |[],i,n,k,b,h=>by simp[M9]at h
 |p::l,i,n,0,b,h=>by
  grind[M9,List.getElem?_cons_zero,Option.some.injEq]
 |p::l,i,n,k+1,b,h=>by
  simp only[M9,AIl]at h;obtain⟨h1,h2,h3⟩:=VZ h;grind
theorem VQ:∀{l:List BP} {i n k:Nat} {p:BP},l[k]? =some p→p≠ .gone→i+k<n→(M9 i n l)[k]? =some (some (i+k))
 |q::l,i,n,0,p,h,hg,hn=>by
  simp at h;subst h;simp only[M9,List.getElem?_cons_zero,AEY];simp_all
 |q::l,i,n,k+1,p,h,hg,hn=>by
  simp only[M9,AIl];rw[VQ (l:=l) (i:=i+1) (k:=k) (by simp_all) hg (by omega)];grind
 |[],_,_,_,_,h,_,_=>by simp at h
theorem Z3{l:List BP}{n:Nat}:aw (M9 0 n l):=fun i j b h k=>by
 have:=(VZ h).1;have:=(VZ k).1;omega
end Go.Fw
end
section
namespace Go.Fw
structure ABd (P:Program) (f:Nat) (fn:Func) (c:Ma):Prop where
 at_:P.funcs[f]? =some fn
 call:∀args w,(callFunc f args).run P w= .ok (.enter f args) w
 con:c.ok=true
 tmps:c.ins.Cv.length≤fn.ntmps
 labels:∀code,fn.body=some code→(labels code).Nodup
section
variable{P:Program} {C:Td} (hT:DO P C.T) {E:Env} {σ:St} {a:Act} {w:World}
include hT in
theorem oW(h:Rel E σ a w):
  ∀{rs:List ResultVar} {xs:List XV},rs.mapM (rG C.T σ)=some xs→ ∃vs,(∀f:ResultVar→Sem Value,(∀u,f (.tmp u)=pure (a.tmps.getD u undef))→(∀b t,f (.cell b t)=(do loadVar t (←asAddr (a.tmps.getD b undef))))→
   (rs.mapM f).run P w= .ok vs w)∧Bh (XR E w σ.bx) xs vs:=by
 intro rs
 induction rs with
 |nil=>
  intro xs e;have hx:xs=[]:=by simpa using e.symm
  subst hx;exact⟨[],fun f _ _=>by simp,trivial⟩
 |cons r rs ih=>
  intro xs e;rw[AI6]at e;simp only[Option.bind_eq_bind,AEz,Option.pure_def,AEY]at e;obtain⟨x,e1,ys,e2,rfl⟩:=e;obtain⟨vs,h1,h2⟩:=ih e2;have one:∃v,(∀f:ResultVar→Sem Value,(∀u,f (.tmp u)=pure (a.tmps.getD u undef))→(∀b t,f (.cell b t)=(do loadVar t (←asAddr (a.tmps.getD b undef))))→(f r).run P w= .ok v w)∧XR E w σ.bx x v:=by
   cases r with
   |tmp t=>
    simp only[rG]at e1;obtain⟨v,hv,hx⟩:=h.tmp e1;refine⟨v,fun f hf hc=> ?_,hx⟩;rw[hf];simp[AIT,hv]
   |cell b t=>
    simp only[rG]at e1;split at e1
    case h_2=>cases e1
    rename_i z hz;obtain⟨v,hv,hx⟩:=h.tmp hz;obtain⟨Fs,hB,hS⟩:=h.bx;cases z with
    |agg l=>simp[Yn]at e1
    |KK l=>simp[Yn]at e1
    |c ad=>
     obtain⟨bb,oo,u,cell,hp,_,q2,q3⟩:=dU hT hB hS.st e1 hx;refine⟨u,fun f hf hc=> ?_,q2⟩;have hgd:a.tmps.getD b undef=v:=by simp[AIT,hv]
     have:=q3 w rfl;rw[hc,hgd,hp];rw[hp]at this;simpa[Instr.loadAt,Instr.sureAddr,asAddr]using this
  obtain⟨v,g1,g2⟩:=one;refine⟨v::vs,fun f hf hc=> ?_,g2,h2⟩;rw[AI6];simp[g1 f hf hc,h1 f hf hc]
theorem VV{vw:List Bx}:∀{l:List XV} {q:List (AV ⊕ List AV)} {vs:List Value},iS l=some q→Bh (XR E w vw) l vs→Bh (TR E w vw) q vs
 |[],q,[],e,_=>by
  simp only[iS,AEY]at e;subst e;trivial
 |[],_,_::_,_,h=>h.elim
 | .c x::l,q,v::vs,e,h=>by
  simp only[iS,AEx]at e;obtain⟨r,e1,rfl⟩:=e;exact⟨h.1,VV e1 h.2⟩
 | .agg x::l,q,v::vs,e,h=>by
  simp only[iS,AEx]at e;obtain⟨r,e1,rfl⟩:=e;exact⟨h.1,VV e1 h.2⟩
 | .KK _::_,_,_,e,_=>by simp[iS]at e
 | .c _::_,_,[],_,h=>h.elim
 | .agg _::_,_,[],_,h=>h.elim
include hT in
theorem cz(h:Rel E σ a w){fn:Func}{x:XV}(e:Wr C.T σ fn.results.toList=some x):∃v,(results fn a.tmps).run P w= .ok v w∧XR E w σ.bx x v:=by
 unfold Wr at e;have key:∀xs,fn.results.toList.mapM (rG C.T σ)=some xs→ ∃vs:List Value,(results fn a.tmps).run P w= .ok (if h:vs.toArray.size=1 then vs.toArray[0]else .tuple vs.toArray) w∧Bh (XR E w σ.bx) xs vs:=by
  intro xs hx;obtain⟨vs,h1,h2⟩:=oW (P:=P) hT h hx;refine⟨vs,?_,h2⟩;unfold results;rw[Array.mapM_eq_mapM_toList];simp only[Sem.run_bind,Sem.run_map];rw[h1 _ (fun _=>rfl) (fun _ _=>rfl)];simp only[Result.andThen_ok,Sem.run_pure]
 split at e
 ·rename_i z hz
  cases e;obtain⟨vs,h1,h2⟩:=key _ hz
  match vs,h2 with
  |[v],h2=>exact⟨v,by simpa using h1,h2.1⟩
  |v::_::_,h2=>exact h2.2.elim
  |[],h2=>exact h2.elim
 ·rename_i l hl hz
  simp only[AEx]at e;obtain⟨q,e1,rfl⟩:=e;obtain⟨vs,h1,h2⟩:=key _ hz;have UZ: ¬vs.toArray.size=1:=fun hs=>by
   have:=Bh.len h2
   match l,this with
   |[z],_=>exact hl z rfl
   |[],t=>simp at t hs;omega
   |_::_::_,t=>simp at t hs;omega
  rw[dif_neg UZ]at h1;exact⟨_,h1,vs.toArray,rfl,by simpa using VV e1 h2⟩
 ·cases e
end
theorem VJ{E:Env}{w:World}{vw:List Bx}{more:List Value}:∀{l:List (Nat×XP)} {x:Ef.V l} {vals:List Value},Jz E w vw id l x vals→Jz E w vw id l x (vals++more)
 |[],_,_,_=>trivial
 |(i,p)::l,x,vals,h=>by
  obtain⟨⟨v,hv,hx⟩,hs⟩:=h;exact⟨⟨v,by grind,hx⟩,VJ hs⟩
def l4(C:Td)(c:Ma)(fn:Func)(code:Code)(J:Nat→Nat→St→Option c.outs.V):Prop:=
 ∀ ℓ,ℓ ∈labels code→ ∃(s:Bg) (F:Nat→s.V→Option c.outs.V),(∀n,J n ℓ =jump c.ins.ES.length s (F n))∧(∀v,F 0 v=none)∧
  ∀n v y,F (n+1) v=some y→ ∀ω,Tt C c fn (J n) ℓ ω (s.st fn.ntmps v)=some y
section
variable{P:Program} {C:Td} (hT:DO P C.T) (hΓ:Vh P C.Γ) (hm:P.follows .mixedOrders=true) {fn:Func} {c:Ma}
def xS(c:Ma)(E0:Env)(w0:World)(u:c.outs.V)(e:Ending)(w':World):Prop:=
 ∃x E',e= .returned x∧T0 E0 w0 E' w'∧CD E' w' (Gf.mk id c.outs.ES u.2) (Gf.mk id c.outs.ES u.2) []∧
  Jz E' w' (Gf.mk id c.outs.ES u.2) id c.outs.Cv u.1 [x]∧ ∀i,i<c.ins.ES.length→alive c.outs.ES i=true→E'.FH i=E0.FH i∧E'.FG i=E0.FG i
theorem Ok.opens{E0 E:Env}{w0 w:World}{N nb:Nat}{σ:St}{a:Act}(h:Ok E0 w0 N nb E σ a w)(s:Bg):∃E',Ok E0 w0 N nb E' { σ with bx:=s.opens σ.bx } a w∧
  (∀(i:Nat) d r,s.ES[i]? =some (.sl d r)→E'.FG (σ.bx.length+i)= .slice none 0 0)∧(∀x v,XR E w σ.bx x v→XR E' w (s.opens σ.bx) x v):=by
 obtain⟨E',h1,h2,h3,h4⟩:=dP h.rel s;exact⟨E',h.next h1 h2 rfl,h3,h4⟩
theorem qm{E E':Env}{w:World}{vw:List Bx}{b:Nat}(h:Le E E')(st:∀c,E.S c→E.T c):Mb E w vw E' w (vw.set b .dead):=by
 refine⟨by simp,fun b _=>by rw[h.FH],h.T,h.S,st,fun _ _=>rfl,fun c d r rows _ e=> ?_⟩;by_cases hc:c=b
 ·simp_all
 ·rw[AHB (fun e=>hc e.symm)]at e
  exact⟨d,rows,e,fun p hp q ys hg=>⟨hp,⟨ys,hg,rfl⟩,fun h' hh=>by rw[h.FG];omega⟩⟩
theorem sA{E:Env}{σ:St}{a:Act}{w:World}(h:Rel E σ a w)(b:Nat):∃E',Rel E' (σ.Zx b) a w∧Le E E':=by
 unfold St.Zx;split
 case h_2=>grind[Le.refl]
 rename_i d r rows hb;obtain⟨F,hF,hB⟩:=h.bx.take hb;have P9:CD E w σ.bx (σ.bx.set b .dead) ([]++F++[]):=by simp_all
 obtain⟨hle,hB3⟩:=P9.share;have hk:=qm (vw:=σ.bx) (b:=b) (w:=w) hle h.bx.st;have hk2:Mb E w σ.bx { E with S:=fun c=>E.S c∨c∈F,T:=fun c=>E.T c∨c∈F } w ((σ.bx.set b .dead).map (Bx.Zx b r rows)):=by
  refine⟨by simp,hk.FH,hk.T,hk.S,hk.st,hk.heap,fun c d' r' B6 hc e=> ?_⟩;rw[AG5,AEx]at e;obtain⟨B,e,eB⟩:=e;cases B with
  |mem cs=>cases eB
  |dead=>cases eB
  |sl d0 r0 MJ=>
   cases eB;grind
 have hv:∀x v,VR E w σ.bx x v→VR { E with S:=fun c=>E.S c∨c∈F,T:=fun c=>E.T c∨c∈F } w ((σ.bx.set b .dead).map (Bx.Zx b r rows)) (x.Zx b r rows) v:=fun x v hx=>by
  unfold AV.Zx;split
  ·rename_i c
   split
   ·rename_i hc
    subst hc;obtain⟨h1,h2⟩:=hx;rw[hb]at h2;have hv:=h2.2.2;rw[CI]at hv;simp only[AEY]at hv;have:=P4 hF.2;rw[hv]at this;exact D8 (fun c hc=>hc) (fun _ _=>rfl) this
   grind[EN]
  grind[EN]
 refine⟨_,⟨h.JQ,?_,?_⟩,hle⟩
 ·refine Bh.H6 _ (fun x v hx=> ?_) h.tm
  unfold XV.Zx;split
  ·exact hv _ _ hx
  grind[KB]
 ·obtain⟨Fs,⟨hl,h1⟩,h2⟩:=hB
  have sa:Sep E w (F++Fs.flatten):=h2.perm (by grind);refine⟨Fs,⟨by simp_all,fun k B G NJ hG=> ?_⟩,?_⟩
  ·rw[AG5,AEx]at NJ
   obtain⟨B0,e,rfl⟩:=NJ;have h3:=h1 k B0 G e hG;cases B0 with
   |mem cs=>
    obtain⟨rfl,arr,ty,fr,a1,a2,a3⟩:=h3;exact⟨rfl,arr,ty,fr,a1,a2,Bh.H6 _ (fun x v hx=>hv x v hx) a3⟩
   |sl d0 r0 MJ=>exact⟨h3.1,DK hle.S (fun _ _=>rfl) (fun _ _=>rfl) h3.2⟩
   |dead=>exact h3
  ·rw[AF5]
   have st:=h.bx.st;refine⟨(AFX.1 sa.nodup).2.1,fun c hc ht=> ?_,fun c hc=>sa.lt c (by simp_all),fun c hc=>hc.imp (st c) id,fun c hc=>hc.elim (sa.TQ c) fun h' =>sa.lt c (by simp[h'])⟩;rcases ht with ht|ht
   ·exact sa.free c (AGf.2 (.inr hc)) ht
   ·exact(AFX.1 sa.nodup).2.2 c ht c hc rfl
theorem qR{σ:St}{b i:Nat}(h:σ.bx[i]? =some .dead):(σ.Zx b).bx[i]? =some .dead:=by
 unfold St.Zx;split
 ·simp only[AG5,List.getElem?_set]
  split
  ·simp_all
  ·rw[h];rfl
 omega
theorem l8{σ:St}{b:Nat}:(σ.Zx b).bx.length=σ.bx.length∧(σ.Zx b).tm.length=σ.tm.length:=by
 grind[St.Zx]
theorem Ok.Zx{E0 E:Env}{w0 w:World}{N nb:Nat}{σ:St}{a:Act}(h:Ok E0 w0 N nb E σ a w)(b:Nat):∃E',Ok E0 w0 N nb E' (σ.Zx b) a w:=by
 obtain⟨E',h1,h2⟩:=sA h.rel b;refine⟨E',⟨h1,h.base.trans (h2.base w),by rw[l8.2];exact h.tm,by rw[l8.1];exact h.cH,fun i hi hd=> ?_⟩⟩;rw[h2.FH,h2.FG];exact h.ids i hi fun e=>hd (qR e)
theorem Ok.Ek{E0:Env}{w0 w:World}{N nb:Nat}{a:Act}:∀(l:List AP) (xs:List AV) {E:Env} {σ:St},Ok E0 w0 N nb E σ a w→ ∃E',Ok E0 w0 N nb E' (Ek l xs σ) a w:=by
 intro l xs E σ h
 induction l generalizing xs E σ with
 |nil=>grind[Fw.Ek]
 |cons p l ih=>
  unfold Fw.Ek;split
  ·rename_i heq
   cases heq;obtain⟨E',h'⟩:=h.Zx _;exact ih _ h'
  ·rename_i heq
   cases heq;exact ih _ h
  grind
theorem Ok.AFc{E0:Env}{w0 w:World}{N nb:Nat}{a:Act}{bs:List BP}:∀(l:List (Nat×XP)) {E:Env} {σ:St},Ok E0 w0 N nb E σ a w→ ∃E',Ok E0 w0 N nb E' (Kh bs l σ) a w:=by
 intro l
 induction l with
 |nil=>intro E σ h;exact⟨E,h⟩
 |cons q l ih=>
  intro E σ h;unfold Kh;split
  ·simp_all
  ·rename_i e
   cases e;split
   ·obtain⟨E',h'⟩:=h.Ek [_] [_]
    exact ih h'
   grind
  ·rename_i e
   cases e;split
   ·split
    ·obtain⟨E',h'⟩:=h.Ek _ _
     exact ih h'
    grind
   grind
  grind
theorem fJ{E:Env}{w:World}{vw:List Bx}{x:AV}{v:Value}(h:VR E w vw x v)(hx:x.dr=true):isSlice v=true:=by
 cases x with
 |ref b p=>exact h.1
 |win b p o n=>exact h.1
 |sl s r y=>
  simp only[VR,Rd]at h;obtain⟨a,cap,h,_⟩:=h;simp only[AGv,AHM]at h;rw[h];rfl
 |nil=>cases h;rfl
 |_=>cases hx
theorem kG{E:Env}{σ:St}{a:Act}{w:World}(h:Rel E σ a w)(b j:Nat):Rel E (σ.forget b j) a w∧σ.bx.length≤(σ.forget b j).bx.length∧(∀i:Nat,σ.bx[i]? =some Bx.dead→(σ.forget b j).bx[i]? =some Bx.dead)∧(σ.forget b j).tm=σ.tm:=by
 unfold St.forget;split
 case h_2=>simp_all
 rename_i cs hb;split
 case h_2=>simp_all
 rename_i x hx;split
 case isFalse=>simp_all
 rename_i hs;have zE:=(AEy.1 hb).1;have hk:Mb E w σ.bx E w (σ.bx.set b (.mem (cs.set j (.ref σ.bx.length [])))++[.dead]):=by
  refine⟨by simp,fun _ _=>rfl,fun _ h=>h,fun _ h=>h,h.bx.st,fun _ _=>rfl,fun c d r rows hc e=> ?_⟩;grind
 refine⟨⟨h.JQ,h.tm.imp fun _ _ hx=>KB hk hx,?_⟩,by simp,fun i hi=> ?_,rfl⟩
 ·obtain⟨Fs,⟨hl,h1⟩,h2⟩:=h.bx
  refine⟨Fs++[[]],⟨by simp[hl],fun k B G hB hG=> ?_⟩,by simp_all⟩;by_cases hk2:k<σ.bx.length
  ·rw[AFy (by simp_all)]at hB
   rw[AFy (by omega)]at hG;by_cases hkb:b=k
   ·subst hkb
    rw[AHY hk2]at hB;cases hB;obtain⟨rfl,arr,ty,fr,a1,a2,a3⟩:=h1 b _ G hb hG;refine⟨rfl,arr,ty,fr,a1,a2,?_⟩;have a4:XO E w (σ.bx.set b (.mem (cs.set j (.ref σ.bx.length [])))++[.dead]) cs arr.toList:=a3.imp fun _ _ hv=>EN hk hv
    obtain⟨v,hv,hvr⟩:=a3.get hx;have SI:arr.toList.set j v=arr.toList:=by
     apply AH_;grind
    rw[←SI];refine Bh.set a4 ⟨fJ hvr hs,?_⟩;simp_all
   ·rw[AHB hkb]at hB
    have h3:=h1 k B G hB hG;cases B with
    |mem T5=>
     obtain⟨rfl,arr,ty,fr,a1,a2,a3⟩:=h3;exact⟨rfl,arr,ty,fr,a1,a2,a3.imp fun _ _ hv=>EN hk hv⟩
    |sl d0 r0 MJ=>exact h3
    |dead=>exact h3
  ·have hlen:=(AEy.1 hB).1
   simp only[AGP,AH1,AFq,AG6]at hlen;have hkk:k=σ.bx.length:=by omega
   subst hkk;rw[AF_ (by simp)]at hB;rw[AF_ (by omega)]at hG;simp[hl]at hB hG;subst hB hG;rfl
 grind
theorem Ok.forget{E0 E:Env}{w0 w:World}{N nb:Nat}{σ:St}{a:Act}(h:Ok E0 w0 N nb E σ a w)(b j:Nat):Ok E0 w0 N nb E (σ.forget b j) a w:=by
 obtain⟨h1,h2,h3,h4⟩:=kG h.rel b j;exact⟨h1,h.base,by rw[h4];exact h.tm,AHK h.cH h2,fun i hi hd=>h.ids i hi fun e=>hd (h3 i e)⟩
theorem Ok.Pn{E0 E:Env}{w0 w:World}{N nb:Nat}{a:Act}{bs:List BP}{b:Nat}:∀(l:List AP) (j:Nat) {σ:St},Ok E0 w0 N nb E σ a w→Ok E0 w0 N nb E (Pn bs b j l σ) a w
 |[],_,_,h=>h
 |p::l,j,σ,h=>by
  simp only[Fw.Pn];refine Ok.Pn l (j+1) ?_
  split
  ·split
   ·exact h.forget _ _
   omega
  omega
theorem Ok.ADG{E0 E:Env}{w0 w:World}{N nb:Nat}{a:Act}{bs:List BP}:∀(l:List (Nat×XP)) {σ:St},Ok E0 w0 N nb E σ a w→Ok E0 w0 N nb E (UA bs l σ) a w
 |[],_,h=>h
 |(i,p)::l,σ,h=>by
  simp only[UA];refine Ok.ADG l ?_
  split
  ·split
   ·exact h.Pn _ _
   omega
  omega
theorem Ok.Sh{E0:Env}{w0 w:World}{N nb:Nat}{a:Act}:∀(l:List (AP ⊕ List AP)) (xs:List (AV ⊕ List AV)) {E:Env} {σ:St},Ok E0 w0 N nb E σ a w→ ∃E',Ok E0 w0 N nb E' (Sh l xs σ) a w:=by
 intro l xs E σ h
 induction l generalizing xs E σ with
 |nil=>unfold Fw.Sh;exact⟨E,h⟩
 |cons p l ih=>
  unfold Fw.Sh;split
  ·rename_i heq
   cases heq;obtain⟨E',h'⟩:=h.Ek _ _;exact ih _ h'
  ·rename_i heq
   cases heq;obtain⟨E',h'⟩:=h.Ek _ _;exact ih _ h'
  ·rename_i heq
   cases heq;exact ih _ h
  ·exact⟨E,h⟩
theorem Ok.Xl{E0 E:Env}{w0 w:World}{N nb:Nat}{σ:St}{a:Act}(h:Ok E0 w0 N nb E σ a w)(l:List (Nat×XP))(x:XV):∃E',Ok E0 w0 N nb E' (Xl l x σ) a w:=by
 unfold Fw.Xl;split
 ·unfold z_
  split
  ·exact h.Ek _ _
  ·exact h.Ek _ _
  ·exact h.Sh _ _
  ·exact⟨E,h⟩
 ·exact⟨E,h⟩
include hT in
theorem dZ{E0 E:Env}{w0 w:World}{N:Nat}{σ:St}{a:Act}{u:c.outs.V}(h:Ok E0 w0 N c.ins.ES.length E σ a w)(e:dA C.T c fn.results.toList σ=some u):
  a.defers=[]∧ ∃v,(results fn a.tmps).run P w= .ok v w∧xS c E0 w0 u (.returned v) w:=by
 unfold dA at e;simp only[AEz,AEx]at e;obtain⟨x0,_,x,e1,⟨u',m⟩,e2,rfl⟩:=e;obtain⟨E,h⟩:=h.Xl c.outs.Cv x0;revert h e1 e2
 generalize Fw.Xl c.outs.Cv x0 σ=σ
 intro e1 e2 h;obtain⟨v,h1,h2⟩:=cz hT h.rel e1;obtain⟨E,h,kg,h4⟩:=h.opens c.outs
 replace h2:=h4 _ _ h2
 obtain⟨hext,E1,hf⟩:=YC (tm:=[x]) (vals:=[v]) h.rel.bx ⟨h2,trivial⟩ kg Vp Z3 e2;obtain⟨E2,q1,q2,q3,q4,q5⟩:=hf.shared h.rel.bx;refine⟨h.rel.JQ,v,h1,v,E2,rfl,h.base.trans q3,q4,q5,fun i hi lK=> ?_⟩;obtain⟨p,hp,hg⟩:∃p,c.outs.ES[i]? =some p∧p≠ .gone:=by
  unfold alive at lK;cases hh:c.outs.ES[i]? with
  |none=>rw[hh]at lK;cases lK
  |some p=>
   refine⟨p,rfl,fun hp=> ?_⟩;rw[hh,hp]at lK;cases lK
 have ru:=hext.2 i i (by have:=VQ (i:=0) (n:=c.ins.ES.length) hp hg (by omega);simpa using this);obtain⟨b,B,g1,g2,g3,_⟩:=ez e2 i p hp hg;rw[ru]at g1;cases g1;have hid:=hf.ids i i ru;have rN:=h.ids i hi (fun hd=>by rw[g2]at hd;cases hd;exact g3 rfl);rw[q1,q2];exact⟨hid.1.trans rN.1,hid.2.trans rN.2⟩
include hT hΓ hm in
theorem q_{code:Code}(hb:fn.body=some code)(hl:(labels code).Nodup){J:Nat→Nat→St→Option c.outs.V}(hJ:l4 C c fn code J)
  {E0:Env} {w0:World} {u:c.outs.V} {Q:X3} (hp:Tm Q)
  (hg:Good E0 w0 fn.ntmps c.ins.ES.length u (fun _=>dA C.T c fn.results.toList) (fun _ _ _=>none) (fun _=>dA C.T c fn.results.toList) Q):
  ∀n,ya P E0 w0 fn.ntmps c.ins.ES.length u (J n) code Q:=by
 intro n
 induction n with
 |zero=>
  intro ℓ body Q' Lk E σ a w h e;obtain⟨s,F,j1,j2,j3⟩:=hJ ℓ Lk.label;rw[j1]at e;simp only[jump]at e;split at e
  ·rw[AEz]at e
   obtain⟨q,_,e⟩:=e;rw[j2]at e;cases e
  ·cases e
 |succ n ih=>
  intro ℓ body Q' Lk E σ a w h e;obtain⟨s,F,j1,j2,j3⟩:=hJ ℓ Lk.label;rw[j1]at e;simp only[jump]at e;split at e
  case isFalse=>cases e
  rename_i cH;rw[AEz]at e;obtain⟨⟨v,m⟩,e1,e2⟩:=e;dsimp only at e2;obtain⟨E,h⟩:=h.AFc (bs:=s.ES) s.Cv
  replace h:=h.ADG (bs:=s.ES) s.Cv
  revert h e1
  generalize UA s.ES s.Cv (Kh s.ES s.Cv σ)=σ
  intro e1 h;obtain⟨E,h,kg,h4⟩:=h.opens s;obtain⟨hext,E1,hf⟩:=YC h.rel.bx h.rel.tm kg Vp Z3 e1;obtain⟨E2,q1,q2,q3,q4,q5⟩:=hf.shared h.rel.bx;have KS:fn.ntmps=a.tmps.toList.length:=by rw[←Bh.len h.rel.tm,h.tm]
  have Dg:Ok E0 w0 fn.ntmps c.ins.ES.length E2 (s.st fn.ntmps v) a w:=by
   refine⟨⟨h.rel.JQ,XG q5 (Bh.undef KS),q4⟩,h.base.trans q3,?_,?_,fun i hi hd=> ?_⟩
   ·have:=Bh.len (XG q5 (Bh.undef KS))
    simp only[Bg.st];rw[this,←KS]
   ·simp only[Bg.st]
    rw[M_];exact cH
   ·simp only[Bg.st]at hd
    have vW:s.ES[i]? =some (s.ES[i]'(by omega)):=AEX _;have hng:s.ES[i]'(by omega)≠ .gone:=fun gp=>by
     obtain⟨z,z1,_⟩:=SB id (u:=v.2) vW;apply hd;rw[z1]
     generalize s.ES[i]'(by omega)=pp at z gp
     subst gp;rfl
    have ru:=hext.2 i i (by have:=VQ (i:=0) (n:=c.ins.ES.length) vW hng (by omega);simpa using this);obtain⟨b,B,g1,g2,g3,_⟩:=ez e1 i _ vW hng;rw[ru]at g1;cases g1;have hid:=hf.ids i i ru;have rN:=h.ids i hi (fun hd=>by rw[g2]at hd;cases hd;exact g3 rfl);rw[q1,q2];exact⟨hid.1.trans rN.1,hid.2.trans rN.2⟩
  have oD:=j3 n v u e2;obtain⟨kn',kx',kr',hfind,YW,hnp,hj⟩:=t_ hT hΓ hm hl hp hg ih Lk;simp only[Tt,hb,hfind]at oD;refine Jv.uP (kR hT hΓ hm (hnp.then _) (kn:=fun _ σ=>J n ℓ σ) ⟨fun E σ a w h e=> ?_,fun id E σ a w h e=>YW.x id E σ a w h e,YW.r⟩ hj Dg oD);exact ih ℓ body Q' Lk E σ a w h (e [])
include hT hΓ hm in
theorem gZ{f:Nat}(hf:ABd P f fn c){J:Nat→Nat→St→Option c.outs.V}(hJ:∀code,fn.body=some code→l4 C c fn code J)
  (hg:∀v u,c.g v=some u→ ∃n,∀ω,Dl C c fn (J n) ω v=some u):PN P f c:=by
 refine⟨hf.con,hf.call,fun E w v args u Ff hB hS hgv=> ?_⟩;obtain⟨n,hn⟩:=hg v u hgv;cases hb:fn.body with
 |none=>
  have:=hn [];simp only[Dl,hb]at this;cases this
 |some code=>
  simp only[Dl,hb]at hn;refine calls_of_wp hf.at_ hb ?_
  have hp:Tm (bodyPost P fn (xS c E w u)):=fun ch a w' hq=>by
   obtain⟨_,x,E',hx,_⟩:=hq;cases hx
  have YW:Good E w fn.ntmps c.ins.ES.length u (fun _=>dA C.T c fn.results.toList) (fun _ _ _=>none) (fun _=>dA C.T c fn.results.toList) (bodyPost P fn (xS c E w u)):=
   ⟨fun E' σ a w' h e=>dZ hT h (e []),fun id E' σ a w' h e=>(by cases e []),fun E' σ a w' h e=>dZ hT h (e [])⟩
  have Dg:Ok E w fn.ntmps c.ins.ES.length E (c.ins.st fn.ntmps v) { tmps:=args++Array.replicate (fn.ntmps-args.size) undef,defers:=[] } w:=by
   have wM:Bh (XR E w (Gf.mk id c.ins.ES v.2)) (Ef.mk id c.ins.Cv v.1 (List.replicate fn.ntmps (.c .undef))) (args++Array.replicate (fn.ntmps-args.size) undef).toList:=by
    rw[Array.toList_append];refine XG (VJ hS) (Bh.undef ?_);have:=hf.tmps;simp;omega
   refine⟨⟨rfl,wM,hB⟩,T0.refl E w,?_,by simp only[Bg.st];rw[M_];exact AGh _,fun _ _ _=>⟨rfl,rfl⟩⟩;simp only[Bg.st];rw[Bh.len wM];have:=hf.tmps;simp;omega
  exact kR hT hΓ hm hp YW (q_ hT hΓ hm hb (hf.labels code hb) (hJ code hb) hp YW n) Dg hn
end
end Go.Fw
end
section
namespace Go.Fw
def EC:List Ty→Ty
 |[]=> .unit
 |c::l=> .cons c (EC l)
def ir(row:TypeId→Option (List Ty×Bool))(cells:TypeId→Nat):Nat→List Field→Option (List Ty)
 |_,[]=>some []
 |o,f::fs=>
  match row f.type with
  |some (l,_)=>if f.offset=o∧cells f.type=l.length then(ir row cells (o+l.length) fs).map (l++ ·)else none
  |none=>none
def X4:List Ty×Bool→Ty
 |(l,true)=>EC l
 |([c],false)=>c
 |_=> .unit
def rowOf(P:Program):Nat→TypeId→Option (List Ty×Bool)
 |0,_=>none
 |n+1,t=>
  match P.underlying t with
  |some (.int k)=>some ([.int k],false)
  |some .bool=>some ([.bool],false)
  |some .string=>some ([.str],false)
  |some (.slice e)=>
   match rowOf P n e with
   |some q=>if P.cellsOf e=q.1.length∧0<q.1.length then some ([.sl (X4 q)],false)else none
   |none=>none
  |some (.struct fs)=>
   match ir (rowOf P n) P.cellsOf 0 fs.toList with
   |some l=>if P.cellsOf t=l.length then some (l,true)else none
   |none=>none
  |_=>none
def Vd:(t:Ty)→t.D→Prop
 | .int k,x=>(Lit.int k x).wf=true
 | .bool,_=>True
 | .str,x=>List.length x≤maxLen
 | .sl r,x=>List.length x≤maxLen∧ ∀y∈x,Vd r y
 | .unit,_=>True
 | .cons c r,x=>Vd c x.1∧Vd r x.2
theorem WQ{α:Type}{p:Nat→α→Prop}:∀{n:Nat},(∀i,i<n→ ∃y,p i y)→ ∃x:List α,x.length=n∧ ∀(i:Nat) y,x[i]? =some y→p i y
 |0,_=>⟨[],rfl,fun i y h=>by simp at h⟩
 |n+1,h=>by
  obtain⟨x,h1,h2⟩:=WQ (n:=n) (p:=p) (fun i hi=>h i (by omega));obtain⟨y,hy⟩:=h n (by omega);refine⟨x++[y],by simp[h1],fun i z hz=> ?_⟩;grind
theorem eF{w:World}{B:Nat→Prop}:∀{l m:List Ty} {cs ds:List Value} {x:(EC l).D} {y:(EC m).D},Rd w B (EC l) cs x→Rd w B (EC m) ds y→Vd (EC l) x→Vd (EC m) y→
  ∃z:(EC (l++m)).D,Rd w B (EC (l++m)) (cs++ds) z∧Vd (EC (l++m)) z
 |[],m,cs,ds,x,y,h,k,hx,hy=>by
  simp only[EC,Rd]at h;subst h;exact⟨y,k,hy⟩
 |c::l,m,cs,ds,x,y,h,k,hx,hy=>by
  simp only[EC,Rd]at h;obtain⟨v,r,rfl,h1,h2⟩:=h;obtain⟨z,z1,z2⟩:=eF h2 k hx.2 hy;exact⟨(x.1,z),by simp only[AHZ,EC,Rd];exact⟨v,r++ds,rfl,h1,z1⟩,hx.1,z2⟩
theorem nO{P:Program}{n:Nat}{t:TypeId}{l:List Ty}(h:rowOf P n t=some (l,false)):∃c,l=[c]:=by
 cases n with
 |zero=>simp[rowOf]at h
 |succ n=>
  simp only[rowOf]at h;grind
theorem fp{w:World}{B:Nat→Prop}{P:Program}{n:Nat}{t:TypeId}{q:List Ty×Bool}(h:rowOf P n t=some q){cs:List Value}{x:(EC q.1).D}(hx:Rd w B (EC q.1) cs x)(hv:Vd (EC q.1) x):
  (X4 q).n=q.1.length∧ ∃y:(X4 q).D,Rd w B (X4 q) cs y∧Vd (X4 q) y:=by
 obtain⟨l,b⟩:=q;cases b with
 |true=>
  refine⟨?_,x,hx,hv⟩;clear h hx hv x;simp only[X4]
  induction l with
  |nil=>rfl
  |cons c l ih=>simp[EC,Ty.n,ih]
 |false=>
  obtain⟨c,rfl⟩:=nO h;simp only[EC,Rd]at hx;obtain⟨v,r,rfl,h1,h2⟩:=hx;subst h2;refine⟨?_,x.1,h1,hv.1⟩;have:=Xd h1;grind[X4]
theorem mU(a:Addr):a.add 0=a:=by rfl
theorem mJ{w:World}{a:Addr}{v:Value}(h:w.cell? a=some v):a.spot=none:=by
 unfold World.cell? at h;split at h
 all_goals simp_all
section
variable{H:Type} {enc:TypeId×Value→H} {P:Program} {w:World} {spare:Nat→Bool} {held:Bool}
theorem WG:∀(n:Nat) {t:TypeId} {q:List Ty×Bool},rowOf P n t=some q→ ∀{fuel:Nat} {cs:List Value} {x:DataW H×List MemPlace},DataW.trod enc P w 0 spare held fuel t cs=some x→
  ∃y:(EC q.1).D,Rd w (fun b=>b<w.heap.size) (EC q.1) cs y∧Vd (EC q.1) y
 |0,t,q,h,_,_,_,_=>by simp[rowOf]at h
 |n+1,t,q,h,fuel,cs,x,hx=>by
  simp only[rowOf]at h;split at h
  ·rename_i k hu
   cases h;obtain⟨m,rfl,_,hw⟩:=DataW.trod_int hu hx;exact⟨(m,()),by simp[EC,Rd],hw,trivial⟩
  ·rename_i hu
   cases h;obtain⟨b,rfl,_⟩:=DataW.trod_bool hu hx;exact⟨(b,()),by simp[EC,Rd],trivial,trivial⟩
  ·rename_i hu
   cases h;obtain⟨s,rfl,_,hs⟩:=DataW.trod_string hu hx;refine⟨(s.data.toList,()),by simp[EC,Rd],?_,trivial⟩
   show s.data.toList.length≤maxLen
   simp_all
  ·rename_i e hu
   split at h
   case h_2=>cases h
   rename_i q' vh;split at h
   case isFalse=>cases h
   rename_i qi;cases h;rcases DataW.trod_slice hu hx with⟨rfl,_⟩|⟨a,len,cap,elems,rest,m,_,rfl,_,_,hlc,hcm,RJ,Lk,_,_⟩
   ·refine⟨([],()),?_,⟨by simp,by simp⟩,trivial⟩
    simp only[EC,Rd];simp_all
   ·have each:∀i,i<len→ ∃y:(X4 q').D,Vd (X4 q') y∧ ∃ds,ds.length=(X4 q').n∧(∀j,j<ds.length→w.cell? ((a.add (i*P.cellsOf e)).add j)=ds[j]?)∧Rd w (fun b=>b<w.heap.size) (X4 q') ds y:=by
     intro i hi;have hz:elems[i]? =some (elems[i]'(by omega)):=AEX _;have h1:=Lk i hi;rw[hz,AEz]at h1;obtain⟨ds,hds,htr⟩:=h1;obtain⟨z,z1,z2⟩:=WG n vh htr;obtain⟨_,c1,c2⟩:=World.cells?_some hds
     grind[fp]
    obtain⟨xs,x1,x2⟩:=WQ each;refine⟨(xs,()),?_,⟨by grind,fun y hy=> ?_⟩,trivial⟩
    ·simp only[EC,Rd]
     refine⟨_,[],rfl,⟨_,cap,by rw[x1],by omega,?_⟩,rfl⟩;by_cases h0:len=0
     ·omega
     right
     obtain⟨y0,_,ds0,d0,d1,_⟩:=each 0 (by omega);have rl:0<(X4 q').n:=by
      rw[d0.symm];have hz:elems[0]? =some (elems[0]'(by omega)):=AEX _;have h1:=Lk 0 (by omega);rw[hz,AEz]at h1;obtain⟨ds,hds,htr⟩:=h1;obtain⟨z,z1,z2⟩:=WG n vh htr;grind[fp]
     have zS:=d1 0 (by omega);simp only[Nat.zero_mul,mU]at zS;have iF:w.cell? a=some (ds0[0]'(by omega)):=by simp_all
     have hsp:=mJ iF;obtain⟨b,o,s⟩:=a;simp only at hsp;subst hsp;refine⟨b,o,rfl,?_,fun i y hy=> ?_⟩
     ·grind[World.cell?,Array.getElem?_eq_some_iff]
     ·have hil:=(AEy.1 hy).1
      obtain⟨_,ds,e0,e1,e2⟩:=x2 i y hy;have hcn:P.cellsOf e=(X4 q').n:=by
       have hz:elems[i]? =some (elems[i]'(by omega)):=AEX _;have h1:=Lk i (by omega);rw[hz,AEz]at h1;obtain⟨ds,hds,htr⟩:=h1;obtain⟨z,z1,z2⟩:=WG n vh htr;grind[fp]
      refine⟨ds,e0,fun j v hj=> ?_,e2⟩;grind[List.getElem?_eq_some_iff,Addr.add_eq]
    ·obtain⟨i,hi,rfl⟩:=AHD hy
     exact(x2 i _ (AEX hi)).1
  ·rename_i fs hu
   split at h
   case h_2=>cases h
   rename_i l hl;split at h
   case isFalse=>cases h
   rename_i cO;cases h;obtain⟨xs,m,_,_,hlen,hxs,Lk⟩:=DataW.trod_struct hu hx;have key:∀(fs:List Field) (o:Nat) (l:List Ty) (i0:Nat),ir (rowOf P n) P.cellsOf o fs=some l→cs.length=o+l.length→(∀(i:Nat) (f:Field),fs[i]? =some f→ ∃z,DataW.trod enc P w 0 spare held m f.type ((cs.drop f.offset).take (P.cellsOf f.type))=some z)→
     ∃y:(EC l).D,Rd w (fun b=>b<w.heap.size) (EC l) (cs.drop o) y∧Vd (EC l) y:=by
    intro fs
    induction fs with
    |nil=>
     intro o l i0 hl hc _;simp only[ir,AEY]at hl;subst hl;refine⟨(),?_,trivial⟩;simp only[EC,Rd];simp_all
    |cons f fs ih=>
     intro o l i0 hl hc Lk;simp only[ir]at hl;split at hl
     case h_2=>cases hl
     rename_i l1 b1 hr;split at hl
     case isFalse=>cases hl
     rename_i hof;simp only[AEx]at hl;obtain⟨l2,qe,rfl⟩:=hl;obtain⟨z,hz⟩:=Lk 0 f rfl;obtain⟨y1,a1,a2⟩:=WG n hr hz;obtain⟨y2,b1,b2⟩:=ih (o+l1.length) l2 0 qe (by grind) (fun i f hf=>Lk (i+1) f (by simp_all));grind[eF,List.drop_drop,List.take_append_drop]
   have:=key fs.toList 0 l 0 hl (by omega) (fun i f hf=>by
    grind)
   simp_all
  simp_all
end
end Go.Fw
end
section
open Go.RowKit
namespace Go.Fw
def fN(W:World):Env:={ FH:=fun _=>0,FG:=fun _=> .nilFunc,T:=fun b=>b<W.heap.size,S:=fun b=>b<W.heap.size }
abbrev av:Bg:=⟨[(0,.c (.v .bool))],[]⟩
theorem nM{P:Program}{f:Nat}{Cv:List (Nat×XP)}{g:Bg.V ⟨Cv,[]⟩→Option av.V}(hs:PN P f ⟨⟨Cv,[]⟩,av,g⟩){W:World}{args:Array Value}(x:Ef.V Cv)(hlen:args.size=Cv.length)
  (hx:Jz (fN W) W [] id Cv x args.toList) (hg:g (x,())=some ((true,()),())):Calls P f args W fun e W' =>e= .returned (.bool true)∧Below W.heap.size W W':=by
 obtain⟨_,_,h⟩:=hs;refine(h (fN W) W (x,()) args _ hlen ⟨[],⟨rfl,fun k B F h=>by simp_all⟩,by simp,by simp,by simp,fun _ h=>h,fun _ h=>h⟩ hx hg).mono fun e W' hR=> ?_
 obtain⟨v,E',rfl,base,_,⟨⟨v',hv,hxr⟩,_⟩,_⟩:=hR;simp at hv;subst hv;have:v= .bool true:=by
  have h2:VR E' W' [] (.v .bool true) v:=hxr;exact MU h2
 subst this;exact⟨rfl,base.os,base.tape,base.output,base.size,fun k hk=>base.heap k hk⟩
theorem sy{W:World}{vw:List Bx}{s:Bool}{r:Ty}{v:Value}{y:List r.D}(h:Rd W (fun b=>b<W.heap.size) (.sl r) [v] y):XR (fN W) W vw (XP.mk id (.c (.sl s r)) y) v:=by
 show Rd W (if s then _ else _) (.sl r) [v] y
 cases s<;>exact h
end Go.Fw
end
section
namespace Go.Fw
def Rx:List (Nat×Ma)→Nat→Option Ma
 |[],_=>none
 |(f,c)::l,g=>if f=g then some c else Rx l g
def r_(P:Program):List (Nat×Ma)→Prop
 |[]=>True
 |q::l=>PN P q.1 q.2∧r_ P l
theorem Vn{P:Program}:∀{l:List (Nat×Ma)},r_ P l→Vh P (Rx l)
 |[],_=>fun f c e=>by cases e
 |(g,d)::l,h=>fun f c e=>by
  simp only[Rx]at e;split at e
  ·rename_i hg
   cases e;subst hg;exact h.1
  ·exact Vn h.2 f c e
theorem P0{P:Program}{f:Nat}{fn:Func}(hf:P.funcs[f]? =some fn)(hn:(fn.name== "runtime.NumGoroutine")=false)(hb:fn.body.isNone=false)(args:Array Value)(w:World):
  (callFunc f args).run P w= .ok (.enter f args) w:=by
 have h1:fn.name≠ "runtime.NumGoroutine" :=by simp_all
 have h2:fn.body≠none:=by
  grind
 simp[callFunc,hf,h1,h2]
def Ue(fn:Func)(c:Ma):Bool:=
 !(
  fn.name== "runtime.NumGoroutine")&& !fn.body.isNone&&c.ok&&decide (c.ins.Cv.length≤fn.ntmps)&&(match fn.body with
  |some code=>decide (labels code).Nodup
  |none=>true)
theorem ACg{P:Program}{f:Nat}{fn:Func}{c:Ma}(hf:P.funcs[f]? =some fn)(h:Ue fn c=true):ABd P f fn c:=by
 simp only[Ue,AE1,AHc,AFS]at h;obtain⟨⟨⟨⟨h1,h2⟩,h3⟩,h4⟩,h5⟩:=h;refine⟨hf,P0 hf h1 h2,h3,h4,fun code hc=> ?_⟩;simp_all
def T4(C:Td)(c:Ma)(fn:Func)(J:Nat→Nat→St→Option c.outs.V):List Nat→Prop
 |[]=>True
 | ℓ ::l=>(∃(s:Bg) (F:Nat→s.V→Option c.outs.V),(∀n,J n ℓ =jump c.ins.ES.length s (F n))∧(∀v,F 0 v=none)∧
  ∀n v,∀ω,Tt C c fn (J n) ℓ ω (s.st fn.ntmps v)=F (n+1) v)∧T4 C c fn J l
theorem T4.ok{C:Td}{c:Ma}{fn:Func}{J:Nat→Nat→St→Option c.outs.V}:∀{l:AAO},T4 C c fn J l→ ∀ ℓ ∈l,∃(s:Bg) (F:Nat→s.V→Option c.outs.V),(∀n,J n ℓ =jump c.ins.ES.length s (F n))∧(∀v,F 0 v=none)∧
  ∀n v y,F (n+1) v=some y→ ∀ω,Tt C c fn (J n) ℓ ω (s.st fn.ntmps v)=some y
 |[],_,ℓ,h=>by cases h
 |k::l,hl,ℓ,h=>by
  rcases AGD.1 h with rfl|h
  ·obtain⟨⟨s,F,h1,h2,h3⟩,_⟩:=hl
   exact⟨s,F,h1,h2,fun n v y e ω=>(h3 n v ω).trans e⟩
  ·exact T4.ok hl.2 ℓ h
def Re(fn:Func):AAO:=
 match fn.body with
 |some code=>labels code
 |none=>[]
def DS:List ADd→Nat→List Nat
 |[],_=>[]
 |(r,h)::l,q=>if r=q then h else DS l q
theorem pU{P:Program}{T:GH}{l:List (Nat×Ma)}{hint:Nat→List Nat}{f:Nat}{fn:Func}{c:Ma}(hT:DO P T)(hm:P.follows .mixedOrders=true)(hf:P.funcs[f]? =some fn)(hl:r_ P l)(hc:Ue fn c=true)
  {J:Nat→Nat→St→Option c.outs.V} {L:AAO} (hL:Re fn=L) (hJ:T4 ⟨T,Rx l,hint⟩ c fn J L) (n:Nat) (he:∀ω v,Dl ⟨T,Rx l,hint⟩ c fn (J n) ω v=c.g v):PN P f c:=
 gZ (C:=⟨T,Rx l,hint⟩) hT (Vn hl) hm (ACg hf hc) (J:=J) (fun code hb ℓ hℓ =>T4.ok hJ ℓ (by
  grind[Re])) fun v u hg=>⟨n,fun ω=>(he ω v).trans hg⟩
end Go.Fw
end
section
namespace Go.M
abbrev IQ:Nat:=Go.Fw.IQ
def A6(x:Int):Int:=IntKind.wrap .i64 x
def w8(x:Int):Int:=IntKind.wrap .u8 x
def ZY(κ:IntKind)(a b:Int):Int:=κ.wrap (BitVec.ofInt κ.bits a &&& BitVec.ofInt κ.bits b).toNat
def bOr(κ:IntKind)(a b:Int):Int:=κ.wrap (BitVec.ofInt κ.bits a ||| BitVec.ofInt κ.bits b).toNat
def wX(κ:IntKind)(a b:Int):Int:=κ.wrap (BitVec.ofInt κ.bits a ^^^ BitVec.ofInt κ.bits b).toNat
theorem bH:∃n:Nat,2^64≤n:=⟨_,AGh _⟩
noncomputable def Aq:Nat:=Classical.choose bH
theorem fG:2^64≤Aq:=Classical.choose_spec bH
def iD{α:Type}(p:Int)(v l:List α):Option (List α):=if 0≤p∧p≤(l.length:Int)∧l.length+v.length≤IQ then some (l.take p.toNat++v++l.drop p.toNat)else none
def pv{α:Type}(p q:Int)(l:List α):Option (List α):=if 0≤p∧p≤q∧q≤(l.length:Int)then some (l.take p.toNat++l.drop q.toNat)else none
end Go.M
end
section
namespace Go.Fw
structure SP (P:Program) where
 f:Nat
 c:Ma
 h:PN P f c
def SP.l{P:Program}:List (SP P)→List (Nat×Ma)
 |[]=>[]
 |s::l=>(s.f,s.c)::SP.l l
theorem et{P:Program}:∀l:List (SP P),r_ P (SP.l l)
 |[]=>trivial
 |s::l=>⟨s.h,et l⟩
@[reducible] def AP.Cu (R:Type):AP→Type
 | .cI _ rs=>Q9 rs→R
 | .v t=>t.D→R
 | .sl _ r=>List r.D→R
 | .ZE r=>r.D→R
 | .X9 _ _=>Nat×Nat→R
 |_=>R
def AP.un{R:Type}:(p:AP)→p.Cu R→p.V→R
 | .cI _ _,f,x=>f x
 | .v _,f,x=>f x
 | .sl _ _,f,x=>f x
 | .ZE _,f,x=>f x
 | .X9 _ _,f,x=>f x
 | .nil,f,_=>f
 | .ref _,f,_=>f
 | .ptr _ _,f,_=>f
 | .fn _ _,f,_=>f
 | .any,f,_=>f
@[reducible] def P8.Cu (R:Type):List AP→Type
 |[]=>R
 |p::l=>p.Cu (P8.Cu R l)
def P8.un{R:Type}:(l:List AP)→P8.Cu R l→P8.V l→R
 |[],f,_=>f
 |p::l,f,x=>P8.un l (p.un f x.1) x.2
@[reducible] def QN.Cu (R:Type):List (AP ⊕ List AP)→Type
 |[]=>R
 | .inl p::l=>p.Cu (QN.Cu R l)
 | .inr q::l=>P8.Cu (QN.Cu R l) q
def QN.un{R:Type}:(l:List (AP ⊕ List AP))→QN.Cu R l→QN.V l→R
 |[],f,_=>f
 | .inl p::l,f,x=>QN.un l (p.un f x.1) x.2
 | .inr q::l,f,x=>QN.un l (P8.un q f x.1) x.2
@[reducible] def XP.Cu (R:Type):XP→Type
 | .c p=>p.Cu R
 | .agg l=>P8.Cu R l
 | .row r=>r.D→R
 | .KK l=>QN.Cu R l
def XP.un{R:Type}:(p:XP)→p.Cu R→p.V→R
 | .c p,f,x=>p.un f x
 | .agg l,f,x=>P8.un l f x
 | .row _,f,x=>f x
 | .KK l,f,x=>QN.un l f x
@[reducible] def BP.Cu (R:Type):BP→Type
 | .mem l=>P8.Cu R l
 | .sl _ r=>List r.D→R
 | .gone=>R
def BP.un{R:Type}:(p:BP)→p.Cu R→p.V→R
 | .mem l,f,x=>P8.un l f x
 | .sl _ _,f,x=>f x
 | .gone,f,_=>f
@[reducible] def Ef.Cu (R:Type):List (Nat×XP)→Type
 |[]=>R
 |(_,p)::l=>p.Cu (Ef.Cu R l)
def Ef.un{R:Type}:(l:List (Nat×XP))→Ef.Cu R l→Ef.V l→R
 |[],f,_=>f
 |(_,p)::l,f,x=>Ef.un l (p.un f x.1) x.2
@[reducible] def Gf.Cu (R:Type):List BP→Type
 |[]=>R
 |p::l=>p.Cu (Gf.Cu R l)
def Gf.un{R:Type}:(l:List BP)→Gf.Cu R l→Gf.V l→R
 |[],f,_=>f
 |p::l,f,x=>Gf.un l (p.un f x.1) x.2
@[reducible] def Bg.Cu (s:Bg) (R:Type):Type:=Ef.Cu (Gf.Cu R s.ES) s.Cv
def Bg.un{R:Type}(s:Bg)(f:s.Cu R)(v:s.V):R:=Gf.un s.ES (Ef.un s.Cv f v.1) v.2
structure Lp (o:Bg) where
 ℓ :Nat
 s:Bg
 F:Nat→s.Cu (Option o.V)
def PI{o:Bg}(nb:Nat):List (Lp o)→Nat→Nat→St→Option o.V
 |[],_,_,_=>none
 |p::l,n,ℓ,σ=>if ℓ =p.ℓ then jump nb p.s (p.s.un (p.F n)) σ else PI nb l n ℓ σ
inductive M0 (C:Td) (c:Ma) (fn:Func) (J:Nat→Nat→St→Option c.outs.V):List (Lp c.outs)→Prop
 |nil:M0 C c fn J []
 |cons {ℓ :Nat} {s:Bg} {F:Nat→s.Cu (Option c.outs.V)} {l:List (Lp c.outs)} (h0:∀v,s.un (F 0) v=none) (h1:∀n v ω,Tt C c fn (J n) ℓ ω (s.st fn.ntmps v)=s.un (F (n+1)) v) (h:M0 C c fn J l):M0 C c fn J (⟨ℓ,s,F⟩::l)
def Lp.ls{o:Bg}:List (Lp o)→List Nat
 |[]=>[]
 |p::l=>p.ℓ ::Lp.ls l
theorem pj{o:Bg}{nb:Nat}:∀{l:List (Lp o)} (n:Nat) {ℓ :Nat} (p:Lp o) (pre:List (Lp o)),ℓ =p.ℓ →(Lp.ls (pre++p::l)).Nodup→PI nb (pre++p::l) n ℓ =jump nb p.s (p.s.un (p.F n))
 |l,n,ℓ,p,[],e,_=>by
  funext σ
  simp[PI,e]
 |l,n,ℓ,p,q::pre,e,hn=>by
  funext σ
  have hq: ℓ ≠q.ℓ :=by
   intro h;simp only[AHZ,Lp.ls,AIS]at hn;refine hn.1 ?_
   rw[←h,e];clear hn h e
   induction pre with
   |nil=>simp[Lp.ls]
   |cons a m ih=>simp[Lp.ls,ih]
  have:=congrFun (pj (nb:=nb) (l:=l) n p pre e (by grind[Lp.ls,List.nodup_cons])) σ;simp only[AHZ,PI,AE4 hq];omega
theorem M0.ok{C:Td}{c:Ma}{fn:Func}{nb:Nat}(hb:nb=c.ins.ES.length){L:List (Lp c.outs)}(hn:(Lp.ls L).Nodup):∀{l pre:List (Lp c.outs)},L=pre++l→M0 C c fn (PI nb L) l→T4 C c fn (PI nb L) (Lp.ls l)
 |[],_,_,_=>trivial
 |⟨ℓ,s,F⟩::l,pre,e,.cons h0 h1 h=>by
  refine⟨⟨s,fun n=>s.un (F n),fun n=> ?_,h0,fun n v ω=>h1 n v ω⟩,M0.ok hb hn (pre:=pre++[⟨ℓ,s,F⟩]) (by simp[e]) h⟩;subst hb;rw[e];exact pj n ⟨ℓ,s,F⟩ pre rfl (by simp_all)
def mkP{P:Program}{T:GH}(hT:DO P T)(hm:P.follows .mixedOrders=true){f:Nat}{fn:Func}(hf:P.funcs[f]? =some fn)(i o:Bg)(g:i.Cu (Option o.V))(l:List (SP P))(h:List ADd)(L:List (Lp o))(n:Nat)
  (hL:Re fn=Lp.ls L) (hd:decide (Lp.ls L).Nodup=true) (hc:Ue fn ⟨i,o,i.un g⟩=true)
  (hJ:M0 ⟨T,Rx (SP.l l),DS h⟩ ⟨i,o,i.un g⟩ fn (PI i.ES.length L) L)
  (he:∀ω v,Dl ⟨T,Rx (SP.l l),DS h⟩ ⟨i,o,i.un g⟩ fn (PI i.ES.length L n) ω v=i.un g v):SP P:=
 ⟨f,⟨i,o,i.un g⟩,pU (l:=SP.l l) hT hm hf (et l) hc (J:=PI i.ES.length L) (L:=Lp.ls L) hL (M0.ok rfl (by simp_all) (pre:=[]) rfl hJ) n he⟩
def AF7{P:Program}{T:GH}(hT:DO P T)(hm:P.follows .mixedOrders=true){f:Nat}{fn:Func}(hf:P.funcs[f]? =some fn)(i o:Bg)(g:i.Cu (Option o.V))(l:List (SP P))(h:List ADd)(L:List (Lp o))(n:Nat)
  (hL:Re fn=Lp.ls L) (hd:decide (Lp.ls L).Nodup=true) (hc:Ue fn ⟨i,o,i.un g⟩=true)
  (hJ:M0 ⟨T,Rx (SP.l l),DS h⟩ ⟨i,o,i.un g⟩ fn (PI i.ES.length L) L)
  (he:∀ω v u,i.un g v=some u→Dl ⟨T,Rx (SP.l l),DS h⟩ ⟨i,o,i.un g⟩ fn (PI i.ES.length L n) ω v=some u):SP P:=
 ⟨f,⟨i,o,i.un g⟩,gZ (C:=⟨T,Rx (SP.l l),DS h⟩) hT (Vn (et l)) hm (ACg hf hc) (J:=PI i.ES.length L) (fun code hb ℓ hℓ =>T4.ok (M0.ok (nb:=i.ES.length) rfl (by simp_all) (pre:=[]) rfl hJ) ℓ (by
  grind[Re])) fun v u hg=>⟨n,fun ω=>he ω v u hg⟩⟩
theorem BK{Q:List Bool→Prop}(a:Q [])(b:∀ω,Q (false::ω))(d:∀ω,Q (true::ω)):∀ω,Q ω
 |[]=>a
 |false::ω=>b ω
 |true::ω=>d ω
end Go.Fw
end
section
namespace Go.Fw
open Go.Proofs Go.Shelf Go.RowKit Go.Lib
structure UQ (P:Program) (ρ:Ren) (nm:String) (fv:Func):Prop where
 mixed:P.follows .mixedOrders=true
 f22:P.funcs[ρ.f 22]? =some { Body2.n22 ρ with name:=nm }
 n22:(nm== "runtime.NumGoroutine")=false
 f29:P.funcs[ρ.f 29]? =some fv
 n29:(fv.name== "runtime.NumGoroutine")=false
 b29:fv.body.isNone=true
 e29:Extern.findNext fv=none
 x29:Extern.find fv=some (Extern.SlicesOverlaps.overlaps #[(ρ.t 24),(ρ.t 24)] #[(ρ.t 4)])
 t0:P.underlying (ρ.t 0)=some (TypeDesc.tuple #[])
 a0:∀w,(isAgg (ρ.t 0)).run P w= .ok false w
 z0:∀w,(Go.sizeOf (ρ.t 0)).run P w= .ok 1 w
 v0:∀w,(zeroValue (ρ.t 0)).run P w= .ok (Value.tuple #[]) w
 t3:P.underlying (ρ.t 3)=some (TypeDesc.int IntKind.i64)
 a3:∀w,(isAgg (ρ.t 3)).run P w= .ok false w
 z3:∀w,(Go.sizeOf (ρ.t 3)).run P w= .ok 1 w
 v3:∀w,(zeroValue (ρ.t 3)).run P w= .ok (Value.int IntKind.i64 0) w
 t4:P.underlying (ρ.t 4)=some (TypeDesc.bool)
 a4:∀w,(isAgg (ρ.t 4)).run P w= .ok false w
 z4:∀w,(Go.sizeOf (ρ.t 4)).run P w= .ok 1 w
 v4:∀w,(zeroValue (ρ.t 4)).run P w= .ok (Value.bool false) w
 t24:P.underlying (ρ.t 24)=some (TypeDesc.slice (ρ.t 9))
 a24:∀w,(isAgg (ρ.t 24)).run P w= .ok false w
 z24:∀w,(Go.sizeOf (ρ.t 24)).run P w= .ok 1 w
 v24:∀w,(zeroValue (ρ.t 24)).run P w= .ok (Value.slice none 0 0) w
section
variable{P:Program} {ρ:Ren} {nm:String} {fv:Func}
theorem SR{w:World}{dT sT ty elem:TypeId}{i0:TypeInfo}{b o AB9 AFR OA WI n:Nat}{a:Option Addr}{cs:List Value}(hu:P.underlying dT=some (.slice elem))(hi:P.info? elem=some i0)(hn:n=Nat.min OA AB9)
  (wy:∀W:World,W=w→(Builtin.firstCells i0.size n (.slice a OA WI)).run P W= .ok cs.toArray W) (aT:w.there b o cs.length) (h1:∀v∈cs,v.oneCell' =true):
  (Builtin.copy_ #[dT,sT] ty #[.slice (some ⟨b,o,none⟩) AB9 AFR,.slice a OA WI]).run P w= .ok (goInt n) (w.setCells b o cs):=by
 have cN:=run_storeCells_cells (P:=P) b o cs 0 w (by simpa using fun j hj=>(aT j hj).1) (by simpa using fun j hj=>(aT j hj).2) h1;rw[AHz]at cN;have:=wy w rfl;simp[Builtin.copy_,run_underlying hu,Builtin.lenOf,sizeOf,typeInfo,hi,←hn,this,cN]
set_option maxHeartbeats 4000000 in
set_option maxRecDepth 100000 in
theorem oZ(L:UQ P ρ nm fv){k:Nat}(z9:∀w,(Go.sizeOf (ρ.t 9)).run P w= .ok k w)(ad:Option Addr)(n c i:Nat)(va:Option Addr)(vc:Nat)(w:World)(hi:i≤n)(hnc:n≤c):
  Calls P (ρ.f 22) #[.slice ad n c,.int .i64 i,.slice va 0 vc] w fun e w' =>e= .returned (.slice ad n c)∧w' =w:=by
 have t0:=L.t0;have a0:=L.a0;have z0:=L.z0;have v0:=L.v0;have t3:=L.t3;have a3:=L.a3;have z3:=L.z3;have v3:=L.v3;have t4:=L.t4;have a4:=L.a4;have z4:=L.z4;have v4:=L.v4;have t24:=L.t24;have a24:=L.a24;have z24:=L.z24;have v24:=L.v24;have u0:=run_underlying L.t0;have u3:=run_underlying L.t3;have u4:=run_underlying L.t4;have Ze:=run_underlying L.t24;have mixed:=L.mixed
 go_enter L.f22,Body2.n22_ntmps ρ
 cases ad with
 |none=>
  go_wp2
  go_ret
  exact⟨rfl,rfl⟩
 |some a=>
  obtain⟨ab,ao,asp⟩:=a
  go_wp2
  all_goals (go_ret;exact⟨rfl,rfl⟩)
theorem YO{w:World}(tS tR e:TypeId)(ht:P.underlying tS=some (.slice e))(size:Nat)(hz:∀w,(Go.sizeOf e).run P w= .ok size w)
  (a b:Addr) (la ca lb cb:Nat) (UZ:a.block≠b.block) (tA tB:TypeId) (kA kB:Nat)
  (hsa:w.shape? a.block=some (tA,kA)) (hsb:w.shape? b.block=some (tB,kB)) (hkA:kA≠0)
  (hfb:w.frozen? b=false) (hfe:w.frozen? { block:=b.block,off:=kB }=false):
  (Extern.SlicesOverlaps.overlaps #[tS,tS] #[tR] #[.slice (some a) la ca,.slice (some b) lb cb]).run P w= .ok (.bool false) w:=by
 have cH:(a.block !=b.block)=true:=by simp_all
 have AEH:(a.block==b.block)=false:=by simp_all
 change Sem.run P (α:=Value) (do
  let some t:=(#[tS,tS]:Array TypeId)[0]?|stuck "slices.overlaps: no parameter types"
  let .slice elem←underlying t|stuck "slices.overlaps: slice type expected"
  let size←sizeOf elem
  match(some a:Option Addr),(some b:Option Addr)with
  |some a,some b=>
   if la=0∨lb=0∨size=0 then pure (Value.bool false)
   else if a.block !=b.block&&(←frozen a)&&(←frozen b)then unsupported .addressObserved
   else do
    if a.block !=b.block then do
     noView a;noView b
     if←mayBeOne a b then return Value.bool ((←choose (.extern "sameAddr.stringBytes" 2))==1)
    pure (Value.bool (a.block==b.block&&a.off<b.off+lb*size&&b.off<a.off+la*size))
  |_,_=>pure (Value.bool false)) w=_
 by_cases h0:la=0∨lb=0∨size=0
 ·simp[run_underlying ht,hz,h0]
 ·cases kA with
  |zero=>omega
  |succ kA=>
   cases zG:w.frozen? a<;>cases hfae:w.frozen? { block:=a.block,off:=kA+1 }<;>
    simp[run_underlying ht,hz,h0,cH,AEH,frozen,noView,viewAt,mayBeOne,stringish,shape,Sem.run,hsa,hsb,hfb,hfe,zG,hfae]
set_option maxHeartbeats 4000000 in
set_option maxRecDepth 100000 in
theorem mw(L:UQ P ρ nm fv){i0:TypeInfo}(gY:P.info? (ρ.t 9)=some i0)(hs0:0<i0.size)(b off n c i:Nat)(va:Addr)(m vc:Nat)(cs vs:List Value)(w:World)(hi:i<n)(hm:0<m)(Mu:n+m≤c)(QD:n+m≤IQ)(yh:va.block≠b)
  (cO:cs.length=n*i0.size) (wi:vs.length=m*i0.size) (iF:A_ w b off cs) (aT:w.there b off ((n+m)*i0.size))
  (Nx:∀W:World,W.heap[va.block]? =w.heap[va.block]?→(Builtin.firstCells i0.size m (.slice (some va) m vc)).run P W= .ok vs.toArray W) (o0:∀v∈cs,v.oneCell' =true) (h1v:∀v∈vs,v.oneCell' =true)
  (tA tB:TypeId) (kA kB:Nat) (hsa:w.shape? va.block=some (tA,kA)) (hsb:w.shape? b=some (tB,kB)) (hkA:kA≠0) (hfe:w.frozen? ⟨b,kB,none⟩=false):
  Calls P (ρ.f 22) #[.slice (some ⟨b,off,none⟩) n c,.int .i64 i,.slice (some va) m vc] w fun e w' =>
   e= .returned (.slice (some ⟨b,off,none⟩) (n+m) c)∧ ∃W:World,W.heap=w.heap∧Grown w W∧w' =(W.setCells b (off+(i+m)*i0.size) (cs.drop (i*i0.size))).setCells b (off+i*i0.size) vs:=by
 have t0:=L.t0;have a0:=L.a0;have z0:=L.z0;have v0:=L.v0;have t3:=L.t3;have a3:=L.a3;have z3:=L.z3;have v3:=L.v3;have t4:=L.t4;have a4:=L.a4;have z4:=L.z4;have v4:=L.v4;have t24:=L.t24;have a24:=L.a24;have z24:=L.z24;have v24:=L.v24;have u0:=run_underlying L.t0;have u3:=run_underlying L.t3;have u4:=run_underlying L.t4;have Ze:=run_underlying L.t24;have z9:∀w,(Go.sizeOf (ρ.t 9)).run P w= .ok i0.size w:=fun w=>by simp[sizeOf,typeInfo,gY]
 have mixed:=L.mixed;have oX:=QD;simp only[IQ]at oX;have xA: ¬((m:Int)=0):=by omega
 have vQ: ¬((i:Int)=(n:Int)):=by omega
 generalize hk:i0.size=k at*
 have hmul:(i+m)*k≤(n+m)*k:=AGS _ (by omega);have qS:i*k≤n*k:=AGS _ (by omega);have IV:(i+m)*k<(n+m)*k:=Nat.mul_lt_mul_of_pos_right (by omega) hs0;have nJ:(n+m)*k=n*k+m*k:=AHi ..;have uA:(i+m)*k=i*k+m*k:=AHi ..;have hov:∀lb cb,(callFunc (ρ.f 29) #[.slice (some va) m vc,.slice (some ⟨b,off+(i+m)*k,none⟩) lb cb]).run P w= .ok (.value (.bool false)) w:=fun lb cb=>by
  rw[run_callFunc_extern L.f29 L.n29 L.b29 L.e29 L.x29,
   YO (ρ.t 24) (ρ.t 4) (ρ.t 9) L.t24 k z9 va ⟨b,off+(i+m)*k,none⟩ m vc lb cb yh tA tB kA kB hsa hsb hkA (aT _ IV).2 hfe]
  rfl
 have rv:(cs.drop (i*k)).length=(n-i)*k:=by rw[AIh,cO,AID]
 have hw1:IntKind.i64.wrap ((i:Int)+(m:Int))=(i:Int)+(m:Int):=by rw[IntKind.wrap_i64];omega
 have hb1:(0:Int)≤(i:Int)+(m:Int):=by omega
 have Sg:i≤n:=by omega
 have htn:((i:Int)+(m:Int)).toNat=i+m:=by omega
 have hb2: ¬(c=i+m):=by omega
 have hb3:(i:Int)≤(n:Int)+(m:Int):=by omega
 have hb4: ¬(c=i):=by omega
 have ABO:∀ty dc sc,(Builtin.copy_ #[(ρ.t 24),(ρ.t 24)] ty #[.slice (some ⟨b,off+(i+m)*k,none⟩) (n+m-(i+m)) dc,.slice (some ⟨b,off+i*k,none⟩) (n+m-i) sc]).run P w.drew= .ok (goInt (n-i:Nat)) (w.drew.setCells b (off+(i+m)*k) (cs.drop (i*k))):=fun ty dc sc=>
  SR (n:=n-i) L.t24 gY (by simp only[Nat.min_def];split<;>omega) (fun W hW=>by
   subst hW;simp only[Builtin.firstCells,hk];have hl:A_ w.drew b (off+i*k) (cs.drop (i*k)):=fun j v hj=>by
    rw[AIK]at hj;have:=iF _ v hj
    rwa [←AHn]at this
   rw[←rv];exact IK hl) (fun j hj=>by
    rw[rv]at hj;have:(i+m)*k+j<(n+m)*k:=by
     rw[nJ,uA];have:(n-i)*k=n*k-i*k:=AID ..;omega
    have:=aT _ this;rw[←AHn]at this;exact this) (fun v hv=>o0 v (AH9 hv))
 obtain⟨W1,hW1⟩:∃W1,W1=w.drew.setCells b (off+(i+m)*k) (cs.drop (i*k)):=⟨_,rfl⟩;have AG1:W1.heap[va.block]? =w.heap[va.block]?:=by rw[hW1];exact CX _ _ _ _ _ yh
 have xl:W1.there b (off+i*k) vs.length:=fun j hj=>by
  rw[wi]at hj;have h0:=aT (i*k+j) (by omega);rw[←AHn]at h0;rw[hW1];refine⟨?_,?_⟩
  ·refine isSome_setCells b _ _ _ (fun t ht=> ?_) _ h0.1
   rw[rv]at ht;have h2:(i+m)*k+t<(n+m)*k:=by
    rw[nJ,uA];have:(n-i)*k=n*k-i*k:=AID ..;omega
   have:=(aT _ h2).1;rw[←AHn]at this;exact this
  ·rw[World.frozen?_setCells]
   exact h0.2
 have AFW:∀(W:World),(∀x,W.cell? x=W1.cell? x)→(∀x,W.frozen? x=W1.frozen? x)→W.heap=W1.heap→ ∀ty dc,(Builtin.copy_ #[(ρ.t 24),(ρ.t 24)] ty #[.slice (some ⟨b,off+i*k,none⟩) (n+m-i) dc,.slice (some va) m vc]).run P W= .ok (goInt m) (W.setCells b (off+i*k) vs):=fun W hWc sH df ty dc=>
  SR (n:=m) L.t24 gY (by simp only[Nat.min_def];split<;>omega) (fun V hV=>by subst hV;rw[hk];exact Nx _ (by rw[df];exact AG1)) (fun j hj=>⟨by rw[hWc];exact(xl j hj).1,by rw[sH];exact(xl j hj).2⟩) h1v
 rw[←hW1]at ABO;obtain⟨vab,vao,vas⟩:=va;clear hmul qS IV nJ uA aT xl iF rv
 go_enter L.f22,Body2.n22_ntmps ρ
 go_wp2_with (simp only[hov])
 go_region_law_o (refine step_copy_runI rfl _ _ (ρ.t 24) (ρ.t 24) rfl _ _ (by simp[Act.eval,Act.put]) (by simp[Act.eval,Act.put]) (ABO _ _ _) ?_)
 go_wp2_with (at_builtin;refine wpList_copy_runI _ rfl _ _ (ρ.t 24) (ρ.t 24) rfl _ _ rfl rfl (AFW _ (fun _=>rfl) (fun _=>rfl) rfl _ _) ?_)
 go_ret
 first|exact⟨rfl,_,rfl,⟨rfl,rfl,rfl,AGh _⟩,rfl⟩|exact⟨rfl,w.drew,rfl,⟨rfl,rfl,rfl,AGh _⟩,by first|rfl|rw[hW1]⟩
set_option maxHeartbeats 4000000 in
set_option maxRecDepth 100000 in
theorem rb(L:UQ P ρ nm fv){i0:TypeInfo}(gY:P.info? (ρ.t 9)=some i0)(b off n c:Nat)(va:Addr)(m vc:Nat)(vs:List Value)(w:World)(hm:0<m)(Mu:n+m≤c)
  (aT:w.there b (off+n*i0.size) vs.length) (hn:Xm P w i0.size m (.slice (some va) m vc) vs) (h1v:∀v∈vs,v.oneCell' =true):
  Calls P (ρ.f 22) #[.slice (some ⟨b,off,none⟩) n c,.int .i64 n,.slice (some va) m vc] w fun e w' =>
   e= .returned (.slice (some ⟨b,off,none⟩) (n+m) c)∧w' =w.setCells b (off+n*i0.size) vs:=by
 have t0:=L.t0;have a0:=L.a0;have z0:=L.z0;have v0:=L.v0;have t3:=L.t3;have a3:=L.a3;have z3:=L.z3;have v3:=L.v3;have t4:=L.t4;have a4:=L.a4;have z4:=L.z4;have v4:=L.v4;have t24:=L.t24;have a24:=L.a24;have z24:=L.z24;have v24:=L.v24;have u0:=run_underlying L.t0;have u3:=run_underlying L.t3;have u4:=run_underlying L.t4;have Ze:=run_underlying L.t24;have z9:∀w,(Go.sizeOf (ρ.t 9)).run P w= .ok i0.size w:=fun w=>by simp[sizeOf,typeInfo,gY]
 have mixed:=L.mixed;have xA: ¬((m:Int)=0):=by omega
 have X7:∀ty,(Builtin.append_ #[(ρ.t 24),(ρ.t 24)] ty #[.slice (some ⟨b,off,none⟩) n c,.slice (some va) m vc]).run P w=_:=fun ty=>
  U5 (ts:= #[(ρ.t 24),(ρ.t 24)]) (ty:=ty) rfl rfl L.t24 (.inl ⟨_,L.t24⟩) gY rfl hn Mu aT h1v
 clear aT hn
 generalize hk:i0.size=k at*
 obtain⟨vab,vao,vas⟩:=va
 go_enter L.f22,Body2.n22_ntmps ρ
 go_wp2_with (at_builtin;refine Lib.wpList_append_run _ rfl _ _ (ρ.t 24) (ρ.t 24) rfl _ _ rfl rfl _ _ (X7 _) ?_)
 go_ret
 exact⟨rfl,rfl⟩
set_option maxHeartbeats 4000000 in
set_option maxRecDepth 100000 in
theorem pn(L:UQ P ρ nm fv){i0:TypeInfo}{z:Value}(gY:P.info? (ρ.t 9)=some i0)(hz:i0.zero=some z)(pe:i0.bytes≤512)(ad:Option Addr)(n c:Nat)(va:Addr)(m vc:Nat)(cs vs:List Value)(w:World)(hm:0<m)(hnc:n≤c)(Mu:c<n+m)(QD:n+m≤IQ)
  (ho:∀w',w'.heap=w.heap→(Builtin.firstCells i0.size n (.slice ad n c)).run P w' = .ok cs.toArray w') (hn:Xm P w i0.size m (.slice (some va) m vc) vs):
  Calls P (ρ.f 22) #[.slice ad n c,.int .i64 n,.slice (some va) m vc] w fun e w' =>
   e= .returned (.slice (some ⟨w.heap.size,0,none⟩) (n+m) (grownCap w (n+m) c (ρ.t 9)))∧
   w' =w.drew.alloc (.cells (cs.toArray++vs.toArray++Builtin.zeroCells z.cells (grownCap w (n+m) c (ρ.t 9)-(n+m))) (ρ.t 9)):=by
 have t0:=L.t0;have a0:=L.a0;have z0:=L.z0;have v0:=L.v0;have t3:=L.t3;have a3:=L.a3;have z3:=L.z3;have v3:=L.v3;have t4:=L.t4;have a4:=L.a4;have z4:=L.z4;have v4:=L.v4;have t24:=L.t24;have a24:=L.a24;have z24:=L.z24;have v24:=L.v24;have u0:=run_underlying L.t0;have u3:=run_underlying L.t3;have u4:=run_underlying L.t4;have Ze:=run_underlying L.t24;have z9:∀w,(Go.sizeOf (ρ.t 9)).run P w= .ok i0.size w:=fun w=>by simp[sizeOf,typeInfo,gY]
 have mixed:=L.mixed;have xA: ¬((m:Int)=0):=by omega
 have X7:∀ty,(Builtin.append_ #[(ρ.t 24),(ρ.t 24)] ty #[.slice ad n c,.slice (some va) m vc]).run P w=_:=fun ty=>
  Sx (ts:= #[(ρ.t 24),(ρ.t 24)]) (ty:=ty) rfl rfl L.t24 (.inl ⟨_,L.t24⟩) gY hz rfl ho hn Mu QD pe
 clear hn ho
 obtain⟨W1,hW1⟩:∃W1,W1=w.drew.alloc (.cells (cs.toArray++vs.toArray++Builtin.zeroCells z.cells (grownCap w (n+m) c (ρ.t 9)-(n+m))) (ρ.t 9)):=⟨_,rfl⟩;rw[←hW1]at X7⊢;clear hW1
 generalize hk:i0.size=k at*
 obtain⟨vab,vao,vas⟩:=va
 go_enter L.f22,Body2.n22_ntmps ρ
 cases ad with
 |none=>
  go_wp2_with (at_builtin;refine Lib.wpList_append_run _ rfl _ _ (ρ.t 24) (ρ.t 24) rfl _ _ rfl rfl _ _ (X7 _) ?_)
  all_goals (go_ret;exact⟨rfl,rfl⟩)
 |some a=>
  obtain⟨ab,ao,asp⟩:=a
  go_wp2_with (at_builtin;refine Lib.wpList_append_run _ rfl _ _ (ρ.t 24) (ρ.t 24) rfl _ _ rfl rfl _ _ (X7 _) ?_)
  all_goals (go_ret;exact⟨rfl,rfl⟩)
set_option maxHeartbeats 4000000 in
set_option maxRecDepth 100000 in
theorem uh(L:UQ P ρ nm fv){i0:TypeInfo}{z:Value}(gY:P.info? (ρ.t 9)=some i0)(hz:i0.zero=some z)(ri:z.cells.size=i0.size)(hs0:0<i0.size)(pe:i0.bytes≤512)(b off n c i:Nat)(va:Addr)(m vc:Nat)(cs vs:List Value)(w:World)(hi:i<n)(hm:0<m)(hnc:n≤c)(Mu:c<n+m)(QD:n+m≤IQ)
  (cO:cs.length=n*i0.size) (wi:vs.length=m*i0.size) (zL:b<w.heap.size) (iF:A_ w b off cs) (nw:va.block<w.heap.size)
  (Nx:∀W:World,W.heap[va.block]? =w.heap[va.block]?→(Builtin.firstCells i0.size m (.slice (some va) m vc)).run P W= .ok vs.toArray W) (o0:∀v∈cs,v.oneCell' =true) (h1v:∀v∈vs,v.oneCell' =true):
  Calls P (ρ.f 22) #[.slice (some ⟨b,off,none⟩) n c,.int .i64 i,.slice (some va) m vc] w fun e w' =>
   e= .returned (.slice (some ⟨w.heap.size,0,none⟩) (n+m) (grownCap w (n+m) c (ρ.t 9)))∧
   ∃W:World,W.heap=w.heap.push (.cells ((cs.take (i*i0.size)).toArray++Builtin.zeroCells z.cells (n+m-i)++Builtin.zeroCells z.cells (grownCap w (n+m) c (ρ.t 9)-(n+m))) (ρ.t 9))∧W.os=w.os∧W.tape=w.tape∧W.output=w.output∧
    w' =(W.setCells w.heap.size (i*i0.size) vs).setCells w.heap.size ((i+m)*i0.size) (cs.drop (i*i0.size)):=by
 have t0:=L.t0;have a0:=L.a0;have z0:=L.z0;have v0:=L.v0;have t3:=L.t3;have a3:=L.a3;have z3:=L.z3;have v3:=L.v3;have t4:=L.t4;have a4:=L.a4;have z4:=L.z4;have v4:=L.v4;have t24:=L.t24;have a24:=L.a24;have z24:=L.z24;have v24:=L.v24;have u0:=run_underlying L.t0;have u3:=run_underlying L.t3;have u4:=run_underlying L.t4;have Ze:=run_underlying L.t24;have z9:∀w,(Go.sizeOf (ρ.t 9)).run P w= .ok i0.size w:=fun w=>by simp[sizeOf,typeInfo,gY]
 have mixed:=L.mixed;have oX:=QD;simp only[IQ]at oX;have xA: ¬((m:Int)=0):=by omega
 have vQ: ¬((i:Int)=(n:Int)):=by omega
 have hz3:(c:Int)<(n:Int)+(m:Int):=by omega
 have hkk:(n:Int)+(m:Int)-(i:Int)=((n+m-i:Nat):Int):=by omega
 have zP:i+(n+m-i)=n+m:=by omega
 have qS:i*i0.size≤n*i0.size:=AGS _ (by omega);have nJ:(n+m)*i0.size=n*i0.size+m*i0.size:=AHi ..;have uA:(i+m)*i0.size=i*i0.size+m*i0.size:=AHi ..;have hni:(n-i)*i0.size=n*i0.size-i*i0.size:=AID ..;have hold:(Builtin.firstCells i0.size i (.slice (some ⟨b,off,none⟩) i c)).run P w.drew= .ok (cs.take (i*i0.size)).toArray w.drew:=by
  simp only[Builtin.firstCells];have hl:(cs.take (i*i0.size)).length=i*i0.size:=by rw[AII];omega
  have yb:A_ w.drew b off (cs.take (i*i0.size)):=fun j v hj=>by
   rw[AIL]at hj;split at hj
   ·exact iF j v hj
   ·cases hj
  conv=>lhs;rw[←hl]
  exact IK yb
 have ABw:(n+m)*i0.bytes≤140737488355328:=by
  have:(n+m)*i0.bytes≤IQ*512:=Nat.mul_le_mul QD pe;simp only[IQ]at this;omega
 have vz:(n+m-i)*i0.bytes≤281474976710656:=by
  have:(n+m-i)*i0.bytes≤(n+m)*i0.bytes:=AGS _ (by omega);omega
 have hrz:∀ty,(Builtin.append_ #[(ρ.t 24),(ρ.t 3)] ty #[.slice (some ⟨b,off,none⟩) i c,.int .i64 ((n:Int)+(m:Int)-(i:Int))]).run P w=
   .ok (.slice (some ⟨w.heap.size,0,none⟩) (n+m) (grownCap w (n+m) c (ρ.t 9))) (w.drew.alloc (.cells ((cs.take (i*i0.size)).toArray++Builtin.zeroCells z.cells (n+m-i)++Builtin.zeroCells z.cells (grownCap w (n+m) c (ρ.t 9)-(n+m))) (ρ.t 9))):=fun ty=>by
  have h:=Lib.run_append_grow_zeros w (ρ.t 24) (ρ.t 3) ty (ρ.t 9) i0 z .i64 .i64 L.t24 L.t3 gY hz (some ⟨b,off,none⟩) i c (cs.take (i*i0.size)) hold (n+m-i) (by omega) hs0 (by omega) (by omega) vz (by rw[zP];exact growslice_fits Mu ABw);rw[zP]at h;rw[hkk];exact h
 have hGn:n+m≤grownCap w (n+m) c (ρ.t 9):=grownCap_ge w _ _ _;have AGd:grownCap w (n+m) c (ρ.t 9)≤9223372036854775807:=by
  have:=grownCap_le_maxLen w (n+m) c (ρ.t 9) (by unfold maxLen;omega);unfold maxLen at this;omega
 obtain⟨G,hG⟩:∃G,G=grownCap w (n+m) c (ρ.t 9):=⟨_,rfl⟩;rw[←hG]at hrz hGn AGd⊢;obtain⟨ROW,mC⟩:∃ROW:Array Value,ROW=(cs.take (i*i0.size)).toArray++Builtin.zeroCells z.cells (n+m-i)++Builtin.zeroCells z.cells (G-(n+m)):=⟨_,rfl⟩;rw[←mC]at hrz⊢;have hRl:(n+m)*i0.size≤ROW.size:=by
  rw[mC];simp only[AIo,AIp,size_zeroCells,ri,AII];have e1:(n+m-i)*i0.size=(n+m)*i0.size-i*i0.size:=AID ..;omega
 obtain⟨W1,hW1⟩:∃W1,W1=w.drew.alloc (.cells ROW (ρ.t 9)):=⟨_,rfl⟩;rw[←hW1]at hrz;have cS:W1.heap[w.heap.size]? =some (.cells ROW (ρ.t 9)):=by
  rw[hW1]
  show(w.heap.push (.cells ROW (ρ.t 9)))[w.heap.size]? =_
  simp
 have qo:∀x,x<w.heap.size→W1.heap[x]? =w.heap[x]?:=fun x hx=>by rw[hW1];exact Fy hx
 have hN:∀o l,o+l≤(n+m)*i0.size→W1.there w.heap.size o l:=fun o l h=>Nj (k:=1) cS (by omega) (O_ _)
 have rv:(cs.drop (i*i0.size)).length=(n-i)*i0.size:=by rw[AIh,cO,hni]
 have AFD:∀(W:World),(∀x,W.cell? x=W1.cell? x)→(∀x,W.frozen? x=W1.frozen? x)→W.heap=W1.heap→ ∀ty dc,(Builtin.copy_ #[(ρ.t 24),(ρ.t 24)] ty #[.slice (some ⟨w.heap.size,i*i0.size,none⟩) (n+m-i) dc,.slice (some va) m vc]).run P W= .ok (goInt m) (W.setCells w.heap.size (i*i0.size) vs):=fun W hWc sH df ty dc=>
  SR (n:=m) L.t24 gY (by simp only[Nat.min_def];split<;>omega) (fun V hV=>by subst hV;exact Nx _ (by rw[df];exact qo _ nw)) (fun j hj=>by
   have:=hN (i*i0.size) (m*i0.size) (by omega) j (by omega);exact⟨by rw[hWc];exact this.1,by rw[sH];exact this.2⟩) h1v
 have AB6:∀(W:World),(∀x,W.cell? x=(W1.setCells w.heap.size (i*i0.size) vs).cell? x)→(∀x,W.frozen? x=(W1.setCells w.heap.size (i*i0.size) vs).frozen? x)→W.heap=(W1.setCells w.heap.size (i*i0.size) vs).heap→ ∀ty dc sc,(Builtin.copy_ #[(ρ.t 24),(ρ.t 24)] ty #[.slice (some ⟨w.heap.size,(i+m)*i0.size,none⟩) (n+m-(i+m)) dc,.slice (some ⟨b,off+i*i0.size,none⟩) (n-i) sc]).run P W= .ok (goInt (n-i:Nat)) (W.setCells w.heap.size ((i+m)*i0.size) (cs.drop (i*i0.size))):=fun W hWc sH df ty dc sc=>
  SR (n:=n-i) L.t24 gY (by simp only[Nat.min_def];split<;>omega) (fun V hV=>by
   subst hV;simp only[Builtin.firstCells];rw[←rv];refine IK fun j v hj=> ?_
   rw[AIK]at hj;have h3:=iF _ v hj;rw[←AHn]at h3;rw[←h3];refine World.cell?_of_block (a:=⟨b,off+i*i0.size+j,none⟩) ?_
   rw[df,CX _ _ _ _ _ (show b≠w.heap.size by omega)];exact qo b zL) (fun j hj=>by
   have hb:W1.there w.heap.size ((i+m)*i0.size) (cs.drop (i*i0.size)).length:=hN _ _ (by omega);refine⟨?_,?_⟩
   ·rw[hWc]
    exact isSome_setCells _ _ _ _ (fun t ht=>(hN (i*i0.size) vs.length (by omega) t ht).1) _ (hb j hj).1
   ·rw[sH,World.frozen?_setCells]
    exact(hb j hj).2) (fun v hv=>o0 v (AH9 hv))
 generalize hk:i0.size=k at*
 have hE1:∀x,((w.alloc (.cells ROW (ρ.t 9))).drew).cell? x=W1.cell? x:=fun x=>by rw[hW1];rfl
 have hE2:∀x,((w.alloc (.cells ROW (ρ.t 9))).drew).frozen? x=W1.frozen? x:=fun x=>by rw[hW1];rfl
 have hE3:((w.alloc (.cells ROW (ρ.t 9))).drew).heap=W1.heap:=by rw[hW1];rfl
 have hF1:∀x,(((w.alloc (.cells ROW (ρ.t 9))).drew.setCells w.heap.size (i*k) vs).drew).cell? x=(W1.setCells w.heap.size (i*k) vs).cell? x:=fun x=>by rw[hW1];rfl
 have zH:∀x,(((w.alloc (.cells ROW (ρ.t 9))).drew.setCells w.heap.size (i*k) vs).drew).frozen? x=(W1.setCells w.heap.size (i*k) vs).frozen? x:=fun x=>by rw[hW1];rfl
 have hF3:(((w.alloc (.cells ROW (ρ.t 9))).drew.setCells w.heap.size (i*k) vs).drew).heap=(W1.setCells w.heap.size (i*k) vs).heap:=by rw[hW1];rfl
 have hw1:IntKind.i64.wrap ((i:Int)+(m:Int))=(i:Int)+(m:Int):=by rw[IntKind.wrap_i64];omega
 have hb1:(0:Int)≤(i:Int)+(m:Int):=by omega
 have Sg:i≤n:=by omega
 have htn:((i:Int)+(m:Int)).toNat=i+m:=by omega
 have hb3:(i:Int)≤(n:Int):=by omega
 have hGi: ¬(G=i):=by omega
 have AIZ: ¬(G=i+m):=by omega
 have hci: ¬(c=i):=by omega
 subst hW1;clear hkk zP hold mC hG hRl qS nJ uA hni rv hN iF Nx cS qo ABw vz;obtain⟨vab,vao,vas⟩:=va
 go_enter L.f22,Body2.n22_ntmps ρ
 go_wp2_with (first
  |(at_builtin;refine Lib.wpList_append_run _ rfl _ _ _ _ rfl _ _ rfl rfl _ _ (hrz _) ?_)
  |(at_builtin;refine wpList_copy_runI _ rfl _ _ (ρ.t 24) (ρ.t 24) rfl _ _ rfl rfl (AFD _ hE1 hE2 hE3 _ _) ?_)
  |(at_builtin;refine wpList_copy_runI _ rfl _ _ (ρ.t 24) (ρ.t 24) rfl _ _ rfl rfl (AB6 _ (fun _=>rfl) (fun _=>rfl) rfl _ _ _) ?_))
 go_region_law_o (refine step_copy_runI rfl _ _ (ρ.t 24) (ρ.t 24) rfl (.slice (some ⟨w.heap.size,(i+m)*k,none⟩) (n+m-(i+m)) (G-(i+m))) (.slice (some ⟨b,off+i*k,none⟩) (n-i) (c-i)) (by simp[Act.eval,Act.put]) (by simp[Act.eval,Act.put]) (AB6 _ hF1 zH hF3 (ρ.t 3) (G-(i+m)) (c-i)) ?_)
 go_wp2
 go_ret
 refine⟨rfl,((w.alloc (.cells ROW (ρ.t 9))).drew).drew,rfl,rfl,rfl,rfl,?_⟩;rw[drew_setCells]
end
end Go.Fw
end
section
namespace Go.Fw
open Go.Proofs Go.Shelf Go.RowKit Go.Lib
def Flat(w:World)(r:Ty)(css:List (List Value))(rows:List r.D):Prop:=
 css.length=rows.length∧(∀c∈css,c.length=r.n)∧ ∀(i:Nat) cs y,css[i]? =some cs→rows[i]? =some y→Rd w (fun _=>False) r cs y
theorem Flat.to{w w':World}{r:Ty}(hf:r.flat=true){css:List (List Value)}{rows:List r.D}(h:Flat w r css rows):Flat w' r css rows:=
 ⟨h.1,h.2.1,fun i cs y a b=>US hf (h.2.2 i cs y a b)⟩
theorem Flat.take{w:World}{r:Ty}{css:List (List Value)}{rows:List r.D}(h:Flat w r css rows)(n:Nat):Flat w r (css.take n) (rows.take n):=by
 refine⟨by simp[h.1],fun c hc=>h.2.1 c (AId hc),fun i cs y a b=> ?_⟩;rw[AIL]at a b;split at a
 ·rename_i hi
  rw[AEv hi]at b;exact h.2.2 i cs y a b
 simp_all
theorem Flat.drop{w:World}{r:Ty}{css:List (List Value)}{rows:List r.D}(h:Flat w r css rows)(n:Nat):Flat w r (css.drop n) (rows.drop n):=by
 refine⟨by simp[h.1],fun c hc=>h.2.1 c (AH9 hc),fun i cs y a b=> ?_⟩;rw[AIK]at a b;exact h.2.2 _ cs y a b
theorem Flat.append{w:World}{r:Ty}{css dW:List (List Value)}{rows ADE:List r.D}(h:Flat w r css rows)(k:Flat w r dW ADE):Flat w r (css++dW) (rows++ADE):=by
 refine⟨by simp[h.1,k.1],fun c hc=>(AGf.1 hc).elim (h.2.1 c) (k.2.1 c),fun i cs y a b=> ?_⟩;by_cases hi:i<rows.length
 ·rw[AFy (by rw[h.1];omega)]at a
  rw[AFy hi]at b;exact h.2.2 i cs y a b
 ·rw[AF_ (by rw[h.1];omega)]at a
  rw[AF_ (by omega)]at b;rw[h.1]at a;exact k.2.2 _ cs y a b
theorem Flat.one{w:World}{r:Ty}(hf:r.flat=true){css:List (List Value)}{rows:List r.D}(h:Flat w r css rows):∀v∈css.flatten,v.oneCell' =true:=by
 intro v hv;obtain⟨c,hc,hv⟩:=AHA.1 hv;obtain⟨i,hi,rfl⟩:=AHD hc;have h1:=h.1;exact XY (W0 (S:=fun _=>False) (d:=0) hf (h.2.2 i _ _ (AEX hi) (AEX (by omega)))) v hv
theorem Flat.at{w:World}{S:Nat→Prop}{d:Nat}{r:Ty}(hf:r.flat=true){css:List (List Value)}{rows:List r.D}(h:Flat w r css rows):Dw w S d r css rows (List.replicate rows.length []):=Dw.flat hf h.1 h.2.1 h.2.2
theorem sV{w:World}{S:Nat→Prop}{r:Ty}(hf:r.flat=true){css:List (List Value)}{rows:List r.D}{Fs:List AAO}{d:Nat}(h:Dw w S d r css rows Fs):Flat w r css rows:=by
 refine⟨h.1,h.2.2.1,fun i cs y a b=> ?_⟩;have hi:=(AEy.1 b).1;have h2:=h.2.1;exact US hf (P4 (h.2.2.2 i cs y (Fs[i]'(by omega)) a b (AEX _)))
theorem Flat.dp{w:World}{r:Ty}{css:List (List Value)}{rows:List r.D}(h:Flat w r css rows)(n:Nat)(hn:n≤rows.length):css.flatten.take (n*r.n)=(css.take n).flatten:=by
 have h1:((css.take n).flatten).length=n*r.n:=by
  rw[E8 (n:=r.n) (fun c hc=>h.2.1 c (AId hc)),AII,h.1,Nat.min_eq_left hn]
 grind[List.take_append_drop,List.flatten_append,List.take_of_length_le]
theorem Flat.eL{w:World}{r:Ty}{css:List (List Value)}{rows:List r.D}(h:Flat w r css rows)(n:Nat)(hn:n≤rows.length):css.flatten.drop (n*r.n)=(css.drop n).flatten:=by
 have h1:((css.take n).flatten).length=n*r.n:=by
  rw[E8 (n:=r.n) (fun c hc=>h.2.1 c (AId hc)),AII,h.1,Nat.min_eq_left hn]
 grind[List.take_append_drop,List.flatten_append,List.drop_eq_nil_of_le]
theorem Wy{w:World}{S:Nat→Prop}{d b o cap:Nat}{r:Ty}{rows:List r.D}{css:List (List Value)}{Fs:List AAO}{arr:Array Value}{ty:TypeId}{fr:ACN}(h:Dw w S d r css rows Fs)(hb:w.heap[b]? =some (.cells arr ty fr))
  (hc:A_ w b o css.flatten) (kQ:rows.length≤cap) (KS:o+cap*r.n≤arr.size) (hu:ga fr (arr.size+mk r)):Ow w S (d+1) (.sl r) [.slice (some ⟨b,o,none⟩) rows.length cap] rows (b::Fs.flatten):=by
 simp only[Ow];refine⟨_,cap,rfl,kQ,.inr ⟨b,o,arr,ty,fr,Fs,rfl,hb,KS,hu,rfl,h.2.1,fun j q G hq hG=> ?_⟩⟩;have hj:=(AEy.1 hq).1;have h1:=h.1;have lr:j<css.length:=by omega
 refine⟨css[j],h.2.2.1 _ (AFj _),fun x u hx=> ?_,h.2.2.2 j _ _ _ (AEX lr) hq hG⟩;have xF:=(AEy.1 hx).1;rw[h.2.2.1 _ (AFj _)]at xF;have:=Qs (n:=r.n) (css:=css) (ex:=[]) (i:=j) h.2.2.1 (AEX lr) xF;rw[AF5,hx]at this;have:=hc _ _ this;grind
theorem Yp{w:World}{b o:Nat}{A V B:List Value}{arr:Array Value}{ty:TypeId}{fr:ACN}(hb:w.heap[b]? =some (.cells arr ty fr))(hs:o+(A.length+V.length)+B.length≤arr.size)(hA:A_ w b o A):
  ∃G3,((w.setCells b (o+(A.length+V.length)) B).setCells b (o+A.length) V).heap[b]? =some (.cells G3 ty fr)∧G3.size=arr.size∧A_ ((w.setCells b (o+(A.length+V.length)) B).setCells b (o+A.length) V) b o (A++V++B):=by
 have h1:=D6 B (o+(A.length+V.length)) w b arr ty fr hb;have z1:(Du arr (o+(A.length+V.length)) B).size=arr.size:=D5 ..;have h2:=D6 V (o+A.length) _ b _ ty fr h1;grind[J1,D5,A_.append,NY,List.length_append]
theorem Wi{w:World}{b o:Nat}{A V B:List Value}{arr:Array Value}{ty:TypeId}{fr:ACN}(hb:w.heap[b]? =some (.cells arr ty fr))(hs:o+(A.length+V.length)+B.length≤arr.size)(hA:A_ w b o A):
  ∃G3,((w.setCells b (o+A.length) V).setCells b (o+(A.length+V.length)) B).heap[b]? =some (.cells G3 ty fr)∧G3.size=arr.size∧A_ ((w.setCells b (o+A.length) V).setCells b (o+(A.length+V.length)) B) b o (A++V++B):=by
 have h1:=D6 V (o+A.length) w b arr ty fr hb;have z1:(Du arr (o+A.length) V).size=arr.size:=D5 ..;have h2:=D6 B (o+(A.length+V.length)) _ b _ ty fr h1;grind[J1,D5,A_.append,NY,List.length_append]
@[reducible] def dQ (r:Ty):Bg:=⟨[(0,.c (.ref 0)),(1,.c (.v (.int .i64))),(2,.c (.sl false r))],[.sl 1 r]⟩
@[reducible] def kq (r:Ty):Bg:=⟨[(0,.c (.ref 1))],[.gone,.sl 1 r]⟩
theorem l9{P:Program}{f:Nat}{args:Array Value}{E:Env}{w:World}{r:Ty}{d:Nat}(hd:1≤d){F:AAO}(hS:Sep E w F){l:List r.D}{Q:Ending→World→Prop}
  (h:Calls P f args w Q) (hq:∀e w',Q e w'→ ∃v F',e= .returned v∧isSlice v=true∧Ow w' E.S d (.sl r) [v] l F'∧F'.Nodup∧(∀c∈F',¬E.T c∧c<w'.heap.size)∧(∀c,E.T c→w'.heap[c]? =w.heap[c]?)∧Grown w w'):
  Calls P f args w fun e w' => ∃x E',e= .returned x∧T0 E w E' w'∧CD E' w' [.dead,.sl d r l] [.dead,.sl d r l] []∧
   Jz E' w' [.dead,.sl d r l] id [(0,.c (.ref 1))] ((),()) [x]∧ ∀i,i<1→alive [.gone,.sl d r] i=true→E'.FH i=E.FH i∧E'.FG i=E.FG i:=by
 refine h.mono fun e w' hh=> ?_
 obtain⟨v,F',rfl,hv,ho,nd,hfr,hT,hg⟩:=hq e w' hh
 let E':Env:={ E with FG:=fun n=>if n=1 then v else E.FG n }
 refine⟨v,E',rfl,⟨fun _ h=>h,fun _ h=>h,fun _ h=> .inl h,fun _ h=> .inl h,hT,hg.os,hg.tape,hg.output,hg.size⟩,⟨[[],F'],⟨rfl,fun k B F hB hF=> ?_⟩,?_⟩,?_,fun i hi ha=> ?_⟩
 ·match k with
  |0=>
   simp at hB hF;subst hB hF;rfl
  |1=>
   simp at hB hF;subst hB hF;exact⟨hd,ho⟩
  |k+2=>simp_all
 ·refine⟨by simp_all,fun c hc=>(hfr c (by simp_all)).1,fun c hc=>(hfr c (by simp_all)).2,hS.st,fun c hc=>AHG (hS.TQ c hc) hg.size⟩
 ·refine⟨⟨v,rfl,?_⟩,trivial⟩
  refine⟨hv,?_⟩
  show CK r l []∧(∃q,Eh r l []=some q)∧F4 w' (E'.FG 1) []=some v
  refine⟨trivial,⟨_,rfl⟩,?_⟩;rfl
 grind
end Go.Fw
end
section
namespace Go.Fw
open Go.M Go.Proofs Go.Shelf Go.RowKit Go.Lib
theorem gm{w:World}{b:Nat}{arr:Array Value}{ty:TypeId}{fr:ACN}(h:w.heap[b]? =some (.cells arr ty fr)):w.shape? b=some (ty,arr.size):=by
 simp[World.shape?,h]
theorem rO{w:World}{b o:Nat}{v:Value}(h:w.cell? ⟨b,o,none⟩=some v):∃arr ty fr,w.heap[b]? =some (.cells arr ty fr)∧o<arr.size:=by
 unfold World.cell? at h;grind
theorem Grown.trans'{w w' vH:World}(h:Grown w w')(k:Grown w' vH):Grown w vH:=⟨k.os.trans h.os,k.tape.trans h.tape,k.output.trans h.output,AHK h.size k.size⟩
theorem fE{P:Program}{T:GH}{ρ:Ren}{nm:String}{fv:Func}(hT:DO P T)(L:UQ P ρ nm fv){r:Ty}(RJ:T.JB (ρ.t 24) r=true)(hf:r.flat=true)(cM:mk r=1)(rl:0<r.n):
  PN P (ρ.f 22) ⟨dQ r,kq r,fun v=>(iD v.1.2.1 v.1.2.2.1 v.2.1).map fun l=>(((),()),((),l,()))⟩:=by
 refine⟨by simp[Ma.ok,kinds,YH,AP.ID,XP.ID,BP.ID],P0 L.f22 L.n22 (by kernel_rfl),?_⟩;intro E w v args u ACT hB hS hg;obtain⟨⟨u0,p,vs,u1⟩,rows,u2⟩:=v;obtain⟨⟨⟨⟩,⟨⟩⟩,⟨⟩,l,⟨⟩⟩:=u;simp only[AEx]at hg;obtain⟨l',ct,hg⟩:=hg;simp only[AG0,true_and,AHM]at hg;subst hg;unfold iD at ct;split at ct
 case isFalse=>cases ct
 rename_i hc;obtain⟨hp0,zA,QD⟩:=hc;obtain⟨p,rfl⟩:=AIm hp0;simp only[AFL,AEY]at ct;have uI:p≤rows.length:=by omega
 obtain⟨⟨a0,h0,x0⟩,⟨a1,h1,x1⟩,⟨a2,h2,x2⟩,_⟩:=hS;have Ff:args= #[a0,a1,a2]:=by
  have hl3:args.toList.length=3:=ACT;apply Array.ext'
  match hq:args.toList,hl3 with
  |[b0,b1,b2],_=>
   rw[hq]at h0 h1 h2;simp at h0 h1 h2;simp[h0,h1,h2]
 subst Ff;have e0:E.FG 0=a0:=by
  have:VR E w [Bx.sl 1 r rows] (.ref 0 []) a0:=x0;simp only[VR]at this;obtain⟨_,_,_,h⟩:=this;rw[CI]at h;exact Option.some.inj h
 have e1:a1= .int .i64 (p:Int):=by
  have:VR E w [Bx.sl 1 r rows] (.v (.int .i64) (p:Int)) a1:=x1;simp only[VR,Rd,AGv,AHM]at this;exact this.2
 have e2:Rd w E.T (.sl r) [a2] vs:=by
  have:VR E w [Bx.sl 1 r rows] (.sl false r vs) a2:=x2;simp only[VR]at this;simpa using this
 subst e1;obtain⟨Fs,⟨hFl,hFb⟩,hSep⟩:=hB;obtain⟨F,rfl⟩:∃F,Fs=[F]:=by
  match Fs,hFl with
  |[F],_=>exact⟨F,rfl⟩
 have qY:=hFb 0 (.sl 1 r rows) F rfl rfl;obtain⟨_,ho⟩:=qY;rw[e0]at ho;simp only[AHt,AIH,AF5]at hSep;have wZ:=ho;obtain⟨ad,cap,css,Fs1,R1,rfl,hle,hd,hp1',hcase⟩:=Zk ho;have jm:=sV hf hd;obtain⟨e,ti,hut,N3,mV,pe,hrow⟩:=G6 hT RJ;obtain⟨i0,z,i1,i2,i3,i4,i5,YW⟩:=PD hT N3 hrow;have he:e=ρ.t 9:=by
  have:=L.t24.symm.trans hut;simp at this;exact this.symm
 subst he;rw[mV]at i2;have z9:∀w,(Go.sizeOf (ρ.t 9)).run P w= .ok r.n w:=fun w=>by simp[sizeOf,typeInfo,i1,i2]
 have ri:z.cells.size=r.n:=by rw[←AIC,i5,Ed]
 have e2':=e2;simp only[Rd]at e2;obtain⟨va,vc,RQ,hvle,hvr⟩:=e2;simp only[AGv,AHM]at RQ;subst RQ;have fin:∀{Q:Ending→World→Prop},Calls P (ρ.f 22) #[.slice ad rows.length cap,.int .i64 (p:Int),.slice va vs.length vc] w Q→
   (∀e w',Q e w'→ ∃v F',e= .returned v∧isSlice v=true∧Ow w' E.S 1 (.sl r) [v] l' F'∧F'.Nodup∧(∀c∈F',¬E.T c∧c<w'.heap.size)∧(∀c,E.T c→w'.heap[c]? =w.heap[c]?)∧Grown w w')→_:=fun h hq=>l9 (AGh 1) hSep h hq
 have Yu:∀n:Nat,(List.replicate n ([]:AAO)).flatten=[]:=fun n=>by simp
 by_cases vv:vs.length=0
 ·
  have AGM:vs=[]:=AGw vv;subst AGM;have hl:rows=l':=by rw[←ct,AF5,List.take_append_drop]
  subst hl;refine fin (oZ (k:=r.n) L z9 ad rows.length cap p va vc w uI hle) fun e w' h=> ?_
  obtain⟨rfl,rfl⟩:=h;exact⟨_,F,rfl,rfl,wZ,hSep.nodup,fun c hc=>⟨hSep.free c hc,hSep.lt c hc⟩,fun _ _=>rfl,⟨rfl,rfl,rfl,AGh _⟩⟩
 have hm:0<vs.length:=by omega
 rcases hvr with hvr|⟨vb,vo,rfl,hvT,hvr⟩
 ·exact absurd hvr vv
 obtain⟨dW,c1,c2,c3,c4⟩:=bX hvr;have Qq:Flat w r dW vs:=⟨c1,c2,fun i cs y a b=>US hf (c4 i cs y a b)⟩;have kK:dW.flatten.length=vs.length*r.n:=by rw[E8 c2,c1]
 have kP:css.flatten.length=rows.length*r.n:=by rw[E8 hd.2.2.1,hd.1]
 have ABZ:0<dW.flatten.length:=by rw[kK];exact Nat.mul_pos hm rl
 obtain⟨arrv,tyv,frv,hbv,hov⟩:=rO (c3 0 _ (AEX ABZ));have AE0:vb<w.heap.size:=by
  by_cases hh:vb<w.heap.size
  ·exact hh
  ·rw[Array.getElem?_eq_none (by omega)]at hbv;cases hbv
 have Ys:Xm P w r.n vs.length (.slice (some ⟨vb,vo,none⟩) vs.length vc) dW.flatten:=LA c1 c2 (.inr ⟨vb,vo,rfl,c3⟩);have AAH:∀W:World,W.heap[vb]? =w.heap[vb]?→(Builtin.firstCells r.n vs.length (.slice (some ⟨vb,vo,none⟩) vs.length vc)).run P W= .ok dW.flatten.toArray W:=fun W hW=>by
  simp only[Builtin.firstCells];rw[←kK];exact IK (c3.of_block hW)
 have vt:=jm.one hf;have pC:=Qq.one hf;by_cases Mu:rows.length+vs.length≤cap
 ·rcases hcase with⟨h0,_⟩|⟨b,o,arr,ty,fr,rfl,hb,KS,hu,rfl,hcc⟩
  ·omega
  have yT: ¬E.T b:=hSep.free b (by simp);have oY:b<w.heap.size:=hSep.lt b (by simp);have UZ:vb≠b:=fun e=>yT (e▸hvT)
  have AHj:(rows.length+vs.length)*r.n≤cap*r.n:=AGS _ Mu;have nJ:(rows.length+vs.length)*r.n=rows.length*r.n+vs.length*r.n:=AHi ..;by_cases tc:p=rows.length
  ·subst tc
   have hl:rows++vs=l':=by rw[←ct,List.take_length,AIJ,AF5]
   subst hl;have Wb:=rb (ρ:=ρ) L (i0:=i0) i1 b o rows.length cap ⟨vb,vo,none⟩ vs.length vc dW.flatten w hm Mu (by rw[i2];exact Nj (k:=mk r) hb (by omega) hu) (by rw[i2];exact Ys) pC;refine fin Wb fun e w' h=> ?_
   obtain⟨rfl,rfl⟩:=h;obtain⟨G3,q1,q2,q3⟩:=Yp (B:=[]) (V:=dW.flatten) hb (by simp only[AG6];omega) hcc;rw[kP,←i2]at q1 q3;simp only[World.setCells,AF5]at q1 q3;have jt:=(jm.append Qq).to (w':=w.setCells b (o+rows.length*i0.size) dW.flatten) hf;refine⟨_,b::(List.replicate (rows++vs).length ([]:AAO)).flatten,rfl,rfl,?_,?_,?_,fun c hc=>CX _ _ _ _ _ (fun e=>yT (e▸hc)),BW _ _ _ _⟩
   ·have:=Wy (cap:=cap) (jt.at (S:=E.S) (d:=0) hf) q1 (by rw[AHk];exact q3) (by rw[AGP];exact Mu) (by rw[q2];exact KS) (by rw[q2];exact hu)
    rw[Yu]at this⊢;rw[AGP]at this;exact this
   ·simp
   ·intro c hc
    rw[Yu]at hc;simp at hc;subst hc;exact⟨yT,by rw[Cf];exact oY⟩
  ·have IV:p<rows.length:=by omega
   have wY:p*r.n≤rows.length*r.n:=AGS _ uI;have yl:(p+vs.length)*r.n=p*r.n+vs.length*r.n:=AHi ..;have Wb:=mw (ρ:=ρ) L (i0:=i0) i1 (by rw[i2];exact rl) b o rows.length cap p ⟨vb,vo,none⟩ vs.length vc css.flatten dW.flatten w IV hm Mu QD UZ (by rw[i2];exact kP) (by rw[i2];exact kK) hcc
    (by rw[i2];exact Nj (k:=mk r) hb (by omega) hu) (by rw[i2];exact AAH) vt pC tyv ty arrv.size arr.size (gm hbv) (gm hb) (by omega) (by
     have:=hu arr.size (by omega);obtain⟨lo,hi⟩:=fr;simp only[World.frozen?,hb];simp at this⊢;omega)
   refine fin Wb fun e w' h=> ?_
   obtain⟨rfl,W,df,hWg,rfl⟩:=h;have hA:(css.flatten.take (p*r.n)).length=p*r.n:=by rw[AII];omega
   have hB:(css.flatten.drop (p*r.n)).length=rows.length*r.n-p*r.n:=by rw[AIh,kP]
   have yy:W.heap[b]? =some (.cells arr ty fr):=by rw[df];exact hb
   have hcA:A_ W b o (css.flatten.take (p*r.n)):=A_.heap (fun j v hj=>by
    rw[AIL]at hj;split at hj
    ·exact hcc j v hj
    ·cases hj) df
   obtain⟨G3,q1,q2,q3⟩:=Yp (B:=css.flatten.drop (p*r.n)) (V:=dW.flatten) yy (by omega) hcA;rw[hA,kK,←yl,←i2]at q1 q3
   generalize dt:(W.setCells b (o+(p+vs.length)*i0.size) (css.flatten.drop (p*i0.size))).setCells b (o+p*i0.size) dW.flatten=w' at q1 q3
   have jt:=(((jm.take p).append Qq).append (jm.drop p)).to (w':=w') hf;rw[ct]at jt;have sS:l'.length=rows.length+vs.length:=by rw[←ct];simp;omega
   refine⟨_,b::(List.replicate l'.length ([]:AAO)).flatten,rfl,rfl,?_,?_,?_,fun c hc=> ?_,?_⟩
   ·have:=Wy (cap:=cap) (jt.at (S:=E.S) (d:=0) hf) q1 (by
     rw[AHk,AHk,←jm.dp p uI,←jm.eL p uI,←i2];exact q3) (by rw[sS];exact Mu) (by rw[q2];exact KS) (by rw[q2];exact hu)
    rw[Yu]at this⊢;rw[sS]at this;exact this
   ·simp
   ·intro c hc
    rw[Yu]at hc;simp at hc;subst hc;refine⟨yT,?_⟩;rw[←dt,Cf,Cf,df];exact oY
   ·have yw:c≠b:=fun e=>yT (e▸hc)
    rw[←dt,CX _ _ _ _ _ yw,CX _ _ _ _ _ yw,df]
   ·rw[←dt]
    exact Grown.trans' hWg (Grown.trans' (BW _ _ _ _) (BW _ _ _ _))
 ·have zC:=grownCap_ge w (rows.length+vs.length) cap (ρ.t 9)
  by_cases tc:p=rows.length
  ·subst tc
   have hl:rows++vs=l':=by rw[←ct,List.take_length,AIJ,AF5]
   subst hl;have hold:rows.length=0∨ ∃b o,ad=some ⟨b,o,none⟩∧A_ w b o css.flatten:=by
    rcases hcase with⟨h0,_⟩|⟨b,of,arr,ty0,fr,rfl,hb,KS,hunf,rfl,hc⟩
    ·exact .inl (by omega)
    ·exact .inr ⟨b,of,rfl,hc⟩
   have Wb:=pn (ρ:=ρ) L (i0:=i0) (z:=z) i1 i4 (by omega) ad rows.length cap ⟨vb,vo,none⟩ vs.length vc css.flatten dW.flatten w hm hle (by omega) QD (by rw[i2];exact U2 hd.1 hd.2.2.1 hold) (by rw[i2];exact Ys);refine fin Wb fun e w' h=> ?_
   obtain⟨rfl,rfl⟩:=h
   generalize grownCap w (rows.length+vs.length) cap (ρ.t 9)=gc at zC⊢
   generalize TK:css.flatten.toArray++dW.flatten.toArray++Builtin.zeroCells z.cells (gc-(rows.length+vs.length))=arr
   have lK:arr.toList=(css++dW).flatten++(Builtin.zeroCells z.cells (gc-(rows.length+vs.length))).toList:=by rw[←TK];simp
   have AGe:arr.size=gc*r.n:=by
    rw[←TK];simp only[AIo,AIp,Qw,ri,kK,kP,←AHi];congr 1;omega
   have new:(w.drew.alloc (.cells arr (ρ.t 9))).heap[w.heap.size]? =some (.cells arr (ρ.t 9)):=by
    show(w.heap.push (.cells arr (ρ.t 9)))[w.heap.size]? =_
    simp
   have jt:=(jm.append Qq).to (w':=w.drew.alloc (.cells arr (ρ.t 9))) hf;have y6:=jt.at (S:=E.S) (d:=0) hf;refine⟨_,w.heap.size::(List.replicate (rows++vs).length ([]:AAO)).flatten,rfl,rfl,?_,?_,?_,fun c hc=>Fy (hSep.TQ c hc),⟨rfl,rfl,rfl,by show _≤(w.heap.push _).size;simp⟩⟩
   ·have:=Tv (cap:=gc) new lK y6.1 (by rw[AGP];exact zC) (by omega) (O_ _) y6.2.1 y6.2.2.2
    rw[Yu]at this⊢;rw[AGP]at this;exact this
   ·simp
   ·intro c hc
    rw[Yu]at hc;simp at hc;subst hc;exact⟨fun jK=>Nat.lt_irrefl _ (hSep.TQ _ jK),by show _<(w.heap.push _).size;simp⟩
  ·have IV:p<rows.length:=by omega
   have wY:p*r.n≤rows.length*r.n:=AGS _ uI;have yl:(p+vs.length)*r.n=p*r.n+vs.length*r.n:=AHi ..;have nJ:(rows.length+vs.length)*r.n=rows.length*r.n+vs.length*r.n:=AHi ..;rcases hcase with⟨h0,_⟩|⟨b,o,arr,ty,fr,rfl,hb,KS,hu,rfl,hcc⟩
   ·omega
   have oY:b<w.heap.size:=hSep.lt b (by simp);have Wb:=uh (ρ:=ρ) L (i0:=i0) (z:=z) i1 i4 (by rw[i2];exact ri) (by rw[i2];exact rl) (by omega) b o rows.length cap p ⟨vb,vo,none⟩ vs.length vc css.flatten dW.flatten w IV hm hle (by omega) QD (by rw[i2];exact kP) (by rw[i2];exact kK) oY hcc AE0 (by rw[i2];exact AAH) vt pC;refine fin Wb fun e w' h=> ?_
   obtain⟨rfl,W,df,hWo,hWt,hWu,rfl⟩:=h
   generalize grownCap w (rows.length+vs.length) cap (ρ.t 9)=gc at zC df⊢
   have hA:(css.flatten.take (p*r.n)).length=p*r.n:=by rw[AII];omega
   have hB:(css.flatten.drop (p*r.n)).length=rows.length*r.n-p*r.n:=by rw[AIh,kP]
   rw[i2]at df
   generalize mC:(css.flatten.take (p*r.n)).toArray++Builtin.zeroCells z.cells (rows.length+vs.length-p)++Builtin.zeroCells z.cells (gc-(rows.length+vs.length))=ROW at df
   have hRs:ROW.size=gc*r.n:=by
    rw[←mC];simp only[AIo,AIp,Qw,ri,hA,←AHi];congr 1;omega
   have hgm:(rows.length+vs.length)*r.n≤gc*r.n:=AGS _ zC;have yy:W.heap[w.heap.size]? =some (.cells ROW (ρ.t 9)):=by rw[df];simp
   have hcA:A_ W w.heap.size 0 (css.flatten.take (p*r.n)):=fun j v hj=>by
    have lr:=(AEy.1 hj).1;rw[HS yy,AHp,←Array.getElem?_toList,←mC];simp only[Array.toList_append,AGl];rw[AFy lr];exact hj
   obtain⟨G3,q1,q2,q3⟩:=Wi (B:=css.flatten.drop (p*r.n)) (V:=dW.flatten) yy (by omega) hcA;rw[hA,kK,←yl,←i2,AHp,AHp]at q1 q3
   generalize dt:(W.setCells w.heap.size (p*i0.size) dW.flatten).setCells w.heap.size ((p+vs.length)*i0.size) (css.flatten.drop (p*i0.size))=w' at q1 q3
   have jt:=(((jm.take p).append Qq).append (jm.drop p)).to (w':=w') hf;rw[ct]at jt;have sS:l'.length=rows.length+vs.length:=by rw[←ct];simp;omega
   refine⟨_,w.heap.size::(List.replicate l'.length ([]:AAO)).flatten,rfl,rfl,?_,?_,?_,fun c hc=> ?_,?_⟩
   ·have:=Wy (cap:=gc) (jt.at (S:=E.S) (d:=0) hf) q1 (by
     rw[AHk,AHk,←jm.dp p uI,←jm.eL p uI,←i2];exact q3) (by rw[sS];exact zC) (by rw[q2];omega) (O_ _)
    rw[Yu]at this⊢;rw[sS]at this;exact this
   ·simp
   ·intro c hc
    rw[Yu]at hc;simp at hc;subst hc;refine⟨fun jK=>Nat.lt_irrefl _ (hSep.TQ _ jK),?_⟩;rw[←dt,Cf,Cf,df];simp
   ·have cO:=hSep.TQ c hc
    rw[←dt,CX _ _ _ _ _ (by omega),CX _ _ _ _ _ (by omega),df];exact Fy cO
   ·rw[←dt]
    refine Grown.trans' (w':=W) ⟨hWo,hWt,hWu,by rw[df];simp⟩ (Grown.trans' (BW _ _ _ _) (BW _ _ _ _))
end Go.Fw
end
section
namespace Go.Fw
open Go.M Go.Proofs Go.Shelf Go.RowKit Go.Lib
structure bO (P:Program) (ρ:Ren) (nm:String):Prop where
 mixed:P.follows .mixedOrders=true
 f24:P.funcs[ρ.f 24]? =some { Body2.n24 ρ with name:=nm }
 n24:(nm== "runtime.NumGoroutine")=false
 t0:P.underlying (ρ.t 0)=some (TypeDesc.tuple #[])
 a0:∀w,(isAgg (ρ.t 0)).run P w= .ok false w
 z0:∀w,(Go.sizeOf (ρ.t 0)).run P w= .ok 1 w
 v0:∀w,(zeroValue (ρ.t 0)).run P w= .ok (Value.tuple #[]) w
 t3:P.underlying (ρ.t 3)=some (TypeDesc.int IntKind.i64)
 a3:∀w,(isAgg (ρ.t 3)).run P w= .ok false w
 z3:∀w,(Go.sizeOf (ρ.t 3)).run P w= .ok 1 w
 v3:∀w,(zeroValue (ρ.t 3)).run P w= .ok (Value.int IntKind.i64 0) w
 t4:P.underlying (ρ.t 4)=some (TypeDesc.bool)
 a4:∀w,(isAgg (ρ.t 4)).run P w= .ok false w
 z4:∀w,(Go.sizeOf (ρ.t 4)).run P w= .ok 1 w
 v4:∀w,(zeroValue (ρ.t 4)).run P w= .ok (Value.bool false) w
 t24:P.underlying (ρ.t 24)=some (TypeDesc.slice (ρ.t 9))
 a24:∀w,(isAgg (ρ.t 24)).run P w= .ok false w
 z24:∀w,(Go.sizeOf (ρ.t 24)).run P w= .ok 1 w
 v24:∀w,(zeroValue (ρ.t 24)).run P w= .ok (Value.slice none 0 0) w
section
variable{P:Program} {ρ:Ren} {nm:String}
set_option maxHeartbeats 4000000 in
set_option maxRecDepth 1000000 in
theorem pd(L:bO P ρ nm){k:Nat}(z9:∀w,(Go.sizeOf (ρ.t 9)).run P w= .ok k w)(ad:Option Addr)(n c i:Nat)(w:World)(hi:i≤n)(hnc:n≤c):
  Calls P (ρ.f 24) #[.slice ad n c,.int .i64 i,.int .i64 i] w fun e w' =>e= .returned (.slice ad n c)∧w' =w:=by
 have mixed:=L.mixed;have t0:=L.t0;have a0:=L.a0;have z0:=L.z0;have v0:=L.v0;have t3:=L.t3;have a3:=L.a3;have z3:=L.z3;have v3:=L.v3;have t4:=L.t4;have a4:=L.a4;have z4:=L.z4;have v4:=L.v4;have t24:=L.t24;have a24:=L.a24;have z24:=L.z24;have v24:=L.v24;have u0:=run_underlying L.t0;have u3:=run_underlying L.t3;have u4:=run_underlying L.t4;have Ze:=run_underlying L.t24
 go_enter L.f24,Body2.n24_ntmps ρ
 cases ad with
 |none=>
  go_wp2
  all_goals (go_ret;exact⟨rfl,rfl⟩)
 |some a=>
  obtain⟨ab,ao,asp⟩:=a
  go_wp2
  all_goals (go_ret;exact⟨rfl,rfl⟩)
theorem jF{w:World}{t elem ty:TypeId}{i0:TypeInfo}{z:Value}{b o n cap:Nat}{Z:List Value}(hu:P.underlying t=some (.slice elem))(hi:P.info? elem=some i0)(hz:i0.zero=some z)(hn:0<n)(hZ:(Builtin.zeroCells z.cells n).toList=Z)
  (aT:w.there b o Z.length) (h1:∀v∈Z,v.oneCell' =true):(Builtin.clear_ #[t] ty #[.slice (some ⟨b,o,none⟩) n cap]).run P w= .ok (.tuple #[]) (w.setCells b o Z):=by
 have cN:=run_storeCells_cells (P:=P) b o Z 0 w (by simpa using fun j hj=>(aT j hj).1) (by simpa using fun j hj=>(aT j hj).2) h1;rw[AHz]at cN;obtain⟨n,rfl⟩:∃m,n=m+1:=⟨n-1,by omega⟩;simp[Builtin.clear_,run_underlying hu,zeroValue,typeInfo,hi,hz,hZ,cN]
set_option maxHeartbeats 4000000 in
set_option maxRecDepth 1000000 in
theorem qQ(L:bO P ρ nm){i0:TypeInfo}{z:Value}(gY:P.info? (ρ.t 9)=some i0)(hz:i0.zero=some z)(b off n c i j:Nat)(cs Z:List Value)(w:World)(rq:i<j)(hj:j≤n)(hnc:n≤c)
  (cO:cs.length=n*i0.size) (iF:A_ w b off cs) (aT:w.there b off (n*i0.size)) (o0:∀v∈cs,v.oneCell' =true) (hZ:(Builtin.zeroCells z.cells (j-i)).toList=Z) (hZl:Z.length=(j-i)*i0.size) (h1z:∀v∈Z,v.oneCell' =true):
  Calls P (ρ.f 24) #[.slice (some ⟨b,off,none⟩) n c,.int .i64 i,.int .i64 j] w fun e w' =>
   e= .returned (.slice (some ⟨b,off,none⟩) (i+(n-j)) c)∧ ∃W:World,W.heap=w.heap∧Grown w W∧w' =(W.setCells b (off+i*i0.size) (cs.drop (j*i0.size))).setCells b (off+(i+(n-j))*i0.size) Z:=by
 have mixed:=L.mixed;have t0:=L.t0;have a0:=L.a0;have z0:=L.z0;have v0:=L.v0;have t3:=L.t3;have a3:=L.a3;have z3:=L.z3;have v3:=L.v3;have t4:=L.t4;have a4:=L.a4;have z4:=L.z4;have v4:=L.v4;have t24:=L.t24;have a24:=L.a24;have z24:=L.z24;have v24:=L.v24;have u0:=run_underlying L.t0;have u3:=run_underlying L.t3;have u4:=run_underlying L.t4;have Ze:=run_underlying L.t24;have z9:∀w,(Go.sizeOf (ρ.t 9)).run P w= .ok i0.size w:=fun w=>by simp[sizeOf,typeInfo,gY]
 obtain⟨k,hk⟩:∃k,i0.size=k:=⟨_,rfl⟩;rw[hk]at cO aT hZl z9⊢;have e1:(n-j)*k=n*k-j*k:=AID ..;have e2:(j-i)*k=j*k-i*k:=AID ..;have e3:j*k≤n*k:=AGS _ hj;have e4:i*k≤j*k:=AGS _ (by omega);have e5:(i+(n-j))*k=i*k+(n-j)*k:=AHi ..;obtain⟨news,Ys⟩:∃news,news=cs.drop (j*k):=⟨_,rfl⟩;have hlen:news.length=(n-j)*k:=by rw[Ys,AIh,cO];omega
 rw[←Ys];obtain⟨A,hA,wy⟩:∃A:Addr,(if c=j then(some ⟨b,off,none⟩:Option Addr)else some ⟨b,off+j*k,none⟩)=some A∧Hid (∀t u,news[t]? =some u→w.drew.cell? (A.add t)=some u):=by
  by_cases h:c=j
  ·refine⟨⟨b,off,none⟩,by simp[h],fun t u hu=> ?_⟩
   have h0:news.length=0:=by rw[hlen,show n-j=0 by omega,Nat.zero_mul]
   rw[List.length_eq_zero_iff.1 h0]at hu;simp at hu
  ·refine⟨⟨b,off+j*k,none⟩,by simp[h],fun t u hu=> ?_⟩
   rw[Ys,AIK]at hu;rw[Addr.add_eq,AHn];exact iF _ u hu
 have s1:Hid (news.length=(n-j)*k):=hlen;have s2:Hid (∀u∈news,u.oneCell' =true):=fun u hu=>o0 u (by rw[Ys]at hu;exact AH9 hu)
 have s3:Hid (∀t,t<news.length→(w.drew.cell? ⟨b,off+i*k+t,none⟩).isSome=true∧w.drew.frozen? ⟨b,off+i*k+t,none⟩=false):=by
  intro t ht;rw[hlen]at ht;rw[AHn];exact aT _ (by omega)
 obtain⟨W1,hW1⟩:∃W1,W1=w.drew.setCells b (off+i*k) news:=⟨_,rfl⟩;have AJY:∀ty,(Builtin.clear_ #[ρ.t 24] ty #[.slice (some ⟨b,off+(i+(n-j))*k,none⟩) (n-(i+(n-j))) (c-(i+(n-j)))]).run P W1= .ok (.tuple #[]) (W1.setCells b (off+(i+(n-j))*k) Z):=fun ty=>by
  rw[show n-(i+(n-j))=j-i by omega];refine jF L.t24 gY hz (by omega) hZ (fun t ht=> ?_) h1z;rw[hZl]at ht;have h0:=aT ((i+(n-j))*k+t) (by omega);rw[←AHn]at h0;rw[hW1];refine⟨isSome_setCells b _ _ _ (fun q hq=> ?_) _ h0.1,by rw[World.frozen?_setCells];exact h0.2⟩;rw[hlen]at hq;have:=(aT (i*k+q) (by omega)).1;rw[←AHn]at this;exact this
 have hW:Hid (W1=w.drew.setCells b (off+i*k) news):=hW1;have hic:i≤c:=by omega
 have hjc:j≤c:=by omega
 have hjn:(i:Int)≤(j:Int):=by omega
 have fin:∃W:World,W.heap=w.heap∧Grown w W∧W1.setCells b (off+(i+(n-j))*k) Z=(W.setCells b (off+i*k) news).setCells b (off+(i+(n-j))*k) Z:=⟨w.drew,rfl,⟨rfl,rfl,rfl,AGh _⟩,by rw[hW1]⟩;clear hW1 Ys hlen e1 e2 e3 e4 e5 aT iF cO hZl
 go_enter L.f24,Body2.n24_ntmps ρ
 go_wp2_with fail
 go_region_law_o (refine step_append_room rfl (.tmp 22) (.tmp 25) (ρ.t 24) rfl (ρ.t 9) i0 k t24 gY hk b off i c (by simp[Act.eval,Act.put]) A (n-j) (c-j) news (by simp[Act.eval,Act.put]) s1.out wy.out s2.out (by omega) s3.out ?_;rw[←hW.out])
 go_wp2
 go_ret
 exact⟨rfl,fin⟩
end
end Go.Fw
end
section
namespace Go.Fw
open Go.M Go.Proofs Go.Shelf Go.RowKit Go.Lib
theorem Dw.take{w:World}{S:Nat→Prop}{d:Nat}{r:Ty}{css:List (List Value)}{rows:List r.D}{Fs:List AAO}(h:Dw w S d r css rows Fs)(n:Nat):Dw w S d r (css.take n) (rows.take n) (Fs.take n):=by
 refine⟨by simp[h.1],by simp[h.2.1],fun c hc=>h.2.2.1 c (AId hc),fun i cs y G a b c=> ?_⟩;rw[AIL]at a b c;split at a
 ·rename_i hi
  rw[AEv hi]at b c;exact h.2.2.2 i cs y G a b c
 simp_all
theorem Dw.drop{w:World}{S:Nat→Prop}{d:Nat}{r:Ty}{css:List (List Value)}{rows:List r.D}{Fs:List AAO}(h:Dw w S d r css rows Fs)(n:Nat):Dw w S d r (css.drop n) (rows.drop n) (Fs.drop n):=by
 refine⟨by simp[h.1],by simp[h.2.1],fun c hc=>h.2.2.1 c (AH9 hc),fun i cs y G a b c=> ?_⟩;rw[AIK]at a b c;exact h.2.2.2 _ cs y G a b c
theorem nI{r:Ty}{css:List (List Value)}(hl:∀c∈css,c.length=r.n)(n:Nat)(hn:n≤css.length):css.flatten.take (n*r.n)=(css.take n).flatten:=by
 have h1:((css.take n).flatten).length=n*r.n:=by
  grind[E8,List.mem_of_mem_take,List.length_take,Nat.min_eq_left]
 grind[List.take_append_drop,List.flatten_append,List.take_of_length_le]
theorem mv{r:Ty}{css:List (List Value)}(hl:∀c∈css,c.length=r.n)(n:Nat)(hn:n≤css.length):css.flatten.drop (n*r.n)=(css.drop n).flatten:=by
 have h1:((css.take n).flatten).length=n*r.n:=by
  grind[E8,List.mem_of_mem_take,List.length_take,Nat.min_eq_left]
 grind[List.take_append_drop,List.flatten_append,List.drop_eq_nil_of_le]
theorem TY:∀{A B:List AAO},A.Sublist B→A.flatten.Sublist B.flatten
 |_,_,.slnil=> .slnil
 |_,_,.cons b h=>(TY h).trans (List.sublist_append_right _ _)
 |_,_,.cons_cons b h=>(List.Sublist.refl b).append (TY h)
theorem OB{Fs:List AAO}{p q:Nat}(hpq:p≤q):((Fs.take p++Fs.drop q).flatten).Sublist Fs.flatten:=by
 grind[List.drop_drop,List.drop_sublist,List.take_append_drop,TY]
@[reducible] def eN (d:Nat) (r:Ty):Bg:=⟨[(0,.c (.ref 0)),(1,.c (.v (.int .i64))),(2,.c (.v (.int .i64)))],[.sl d r]⟩
@[reducible] def kW (d:Nat) (r:Ty):Bg:=⟨[(0,.c (.ref 1))],[.gone,.sl d r]⟩
theorem gJ{P:Program}{T:GH}{ρ:Ren}{nm:String}(hT:DO P T)(L:bO P ρ nm){r:Ty}(RJ:T.JB (ρ.t 24) r=true)(rl:0<r.n)(m:Nat):
  PN P (ρ.f 24) ⟨eN (m+1) r,kW (m+1) r,fun v=>(pv v.1.2.1 v.1.2.2.1 v.2.1).map fun l=>(((),()),((),l,()))⟩:=by
 refine⟨by rfl,P0 L.f24 L.n24 (by kernel_rfl),?_⟩;intro E w v args u ACT hB hS hg;obtain⟨⟨u0,p,q,u1⟩,rows,u2⟩:=v;obtain⟨⟨⟨⟩,⟨⟩⟩,⟨⟩,l,⟨⟩⟩:=u;simp only[AEx]at hg;obtain⟨l',ct,hg⟩:=hg;simp only[AG0,true_and,AHM]at hg;subst hg;unfold pv at ct;split at ct
 case isFalse=>cases ct
 rename_i hc;obtain⟨hp0,hpq,hqn⟩:=hc;have hq0:(0:Int)≤q:=Int.le_trans hp0 hpq;obtain⟨p,rfl⟩:=AIm hp0;obtain⟨q,rfl⟩:=AIm hq0;simp only[AFL,AEY]at ct;have wh:p≤q:=by omega
 have yj:q≤rows.length:=by omega
 obtain⟨⟨a0,h0,x0⟩,⟨a1,h1,x1⟩,⟨a2,h2,x2⟩,_⟩:=hS;have Ff:args= #[a0,a1,a2]:=by
  grind
 subst Ff;have e0:E.FG 0=a0:=by
  have:VR E w [Bx.sl (m+1) r rows] (.ref 0 []) a0:=x0;grind[VR,CI,Option.some.inj]
 have e1:a1= .int .i64 (p:Int):=by
  have:VR E w [Bx.sl (m+1) r rows] (.v (.int .i64) (p:Int)) a1:=x1;simp only[VR,Rd,AGv,AHM]at this;simp_all
 have e2:a2= .int .i64 (q:Int):=by
  have:VR E w [Bx.sl (m+1) r rows] (.v (.int .i64) (q:Int)) a2:=x2;simp only[VR,Rd,AGv,AHM]at this;simp_all
 subst e1 e2;obtain⟨Fs,⟨hFl,hFb⟩,hSep⟩:=hB;obtain⟨F,rfl⟩:∃F,Fs=[F]:=by
  match Fs,hFl with
  |[F],_=>simp_all
 have qY:=hFb 0 (.sl (m+1) r rows) F rfl rfl;obtain⟨_,ho⟩:=qY;rw[e0]at ho;simp only[AHt,AIH,AF5]at hSep;have wZ:=ho;obtain⟨ad,cap,css,Fs1,R1,rfl,hle,hd,hp1',hcase⟩:=Zk ho;obtain⟨e,ti,hut,N3,mV,pe,hrow⟩:=G6 hT RJ;obtain⟨i0,z,i1,i2,i3,i4,i5,YW⟩:=PD hT N3 hrow;have he:e=ρ.t 9:=by
  have:=L.t24.symm.trans hut;simp_all
 subst he;rw[mV]at i2;have z9:∀w,(Go.sizeOf (ρ.t 9)).run P w= .ok r.n w:=fun w=>by simp[sizeOf,typeInfo,i1,i2]
 have ri:z.cells.size=r.n:=by rw[←AIC,i5,Ed]
 have fin:∀{Q:Ending→World→Prop},Calls P (ρ.f 24) #[.slice ad rows.length cap,.int .i64 (p:Int),.int .i64 (q:Int)] w Q→
   (∀e w',Q e w'→ ∃v F',e= .returned v∧isSlice v=true∧Ow w' E.S (m+1) (.sl r) [v] l' F'∧F'.Nodup∧(∀c∈F',¬E.T c∧c<w'.heap.size)∧(∀c,E.T c→w'.heap[c]? =w.heap[c]?)∧Grown w w')→_:=fun h hq=>l9 (by omega) hSep h hq
 by_cases tc:p=q
 ·subst tc
  have hl:rows=l':=by simp_all
  subst hl;refine fin (pd (k:=r.n) L z9 ad rows.length cap p w yj hle) fun e w' h=> ?_
  obtain⟨rfl,rfl⟩:=h;exact⟨_,F,rfl,rfl,wZ,hSep.nodup,fun c hc=>⟨hSep.free c hc,hSep.lt c hc⟩,fun _ _=>rfl,⟨rfl,rfl,rfl,AGh _⟩⟩
 have IV:p<q:=by omega
 rcases hcase with⟨h0,_⟩|⟨b,o,arr,ty,fr,rfl,hb,KS,hu,rfl,hcc⟩
 ·omega
 have yT: ¬E.T b:=hSep.free b (by simp);have oY:b<w.heap.size:=hSep.lt b (by simp);have kF:=AIS.1 hSep.nodup;have kP:css.flatten.length=rows.length*r.n:=by rw[E8 hd.2.2.1,hd.1]
 have g1:(rows.length-q)*r.n=rows.length*r.n-q*r.n:=AID ..;have g2:(q-p)*r.n=q*r.n-p*r.n:=AID ..;have g3:q*r.n≤rows.length*r.n:=AGS _ yj;have g4:p*r.n≤q*r.n:=AGS _ wh;have g5:(p+(rows.length-q))*r.n=p*r.n+(rows.length-q)*r.n:=AHi ..;have g6:rows.length*r.n≤cap*r.n:=AGS _ hle;have hzr:DZ r≠[]:=fun h=>by simp_all
 have hZ:(Builtin.zeroCells z.cells (q-p)).toList=(List.replicate (q-p) (DZ r)).flatten:=by
  grind[Builtin.zeroCells,O0,DZ,Ed]
 have hZl:((List.replicate (q-p) (DZ r)).flatten).length=(q-p)*r.n:=by rw[El,Ed]
 have hZ1:∀v∈(List.replicate (q-p) (DZ r)).flatten,v.oneCell' =true:=fun v hv=>by
  obtain⟨c,hc1,hc2⟩:=AHA.1 hv;rw[AHP hc1]at hc2;exact XY (w:=w) (S:=E.S) (d:=0) (Uh YW) v hc2
 have Wb:=qQ (ρ:=ρ) L (i0:=i0) (z:=z) i1 i4 b o rows.length cap p q css.flatten _ w IV yj hle (by simp_all) hcc (by grind[Nj,mk]) hd.one hZ (by simp_all) hZ1;refine fin Wb fun e w' h=> ?_
 obtain⟨rfl,W,df,hWg,rfl⟩:=h;rw[i2];have hA:(css.flatten.take (p*r.n)).length=p*r.n:=by grind
 have hB:(css.flatten.drop (q*r.n)).length=(rows.length-q)*r.n:=by simp_all
 have yy:W.heap[b]? =some (.cells arr ty fr):=by simp_all
 have hcA:A_ W b o (css.flatten.take (p*r.n)):=A_.heap (fun j v hj=>by
  rw[AIL]at hj;split at hj
  ·exact hcc j v hj
  simp_all) df
 obtain⟨G3,q1,q2,q3⟩:=Wi (B:=(List.replicate (q-p) (DZ r)).flatten) (V:=css.flatten.drop (q*r.n)) yy (by omega) hcA;rw[hA,hB,←g5]at q1 q3
 generalize dt:(W.setCells b (o+p*r.n) (css.flatten.drop (q*r.n))).setCells b (o+(p+(rows.length-q))*r.n) ((List.replicate (q-p) (DZ r)).flatten)=w' at q1 q3
 have Ud:∀c,c≠b→w'.heap[c]? =w.heap[c]?:=fun c hc=>by grind[CX]
 have hcT:∀c,E.T c→c≠b:=fun c hc e=>yT (e▸hc)
 have y6:=((hd.take p).append (hd.drop q)).mono (w':=w') (S':=E.S) (fun _ h=>h) (fun c hc=>Ud c (hcT c (hSep.st c hc))) (fun c hc=>Ud c (fun e=>kF.1 (e▸(OB wh).subset hc)));rw[ct]at y6;have sS:l'.length=p+(rows.length-q):=by grind
 refine⟨_,b::(Fs1.take p++Fs1.drop q).flatten,rfl,rfl,?_,?_,fun c hc=> ?_,fun c hc=>Ud c (hcT c hc),?_⟩
 ·have cO:css.length=rows.length:=hd.1
  have:=Wy (cap:=cap) y6 q1 (by
   rw[AHk,←nI hd.2.2.1 p (by omega),←mv hd.2.2.1 q (by omega)];intro j v hj;exact q3 j v (by grind)) (by omega) (by omega) (by simp_all)
  simp_all
 ·grind[List.nodup_cons,OB]
 ·have AEP:w'.heap.size=w.heap.size:=by grind[Cf]
  rcases AGD.1 hc with rfl|hc
  ·simp_all
  ·have hm:c∈b::Fs1.flatten:=AIw _ ((OB wh).subset hc)
   exact⟨hSep.free c hm,by rw[AEP];exact hSep.lt c hm⟩
 grind[Grown.trans',BW]
end Go.Fw
end
section
namespace Go.Fw
open Go.M Go.Proofs Go.Shelf Go.RowKit Go.Lib
section
variable{P:Program} {ρ:Ren} {nm:String} {fv:Func}
theorem LX{t:TypeId}{n:Nat}(h:(P.info? t).map (·.size)=some n):∀w,(Go.sizeOf t).run P w= .ok n w:=fun w=>by
 obtain⟨i,hi,rfl⟩:=AEx.1 h;simp[sizeOf,typeInfo,hi]
theorem QL{t:TypeId}{z:Value}(h:(P.info? t).bind (·.zero)=some z):∀w,(zeroValue t).run P w= .ok z w:=fun w=>by
 obtain⟨i,hi,hz⟩:=AEz.1 h;simp[zeroValue,typeInfo,hi,hz]
structure YX (P:Program) (ρ:Ren):Prop where
 t0:P.underlying (ρ.t 0)=some (TypeDesc.tuple #[])
 t3:P.underlying (ρ.t 3)=some (TypeDesc.int IntKind.i64)
 t4:P.underlying (ρ.t 4)=some (TypeDesc.bool)
 t24:P.underlying (ρ.t 24)=some (TypeDesc.slice (ρ.t 9))
 s0:(P.info? (ρ.t 0)).map (·.size)=some 1
 s3:(P.info? (ρ.t 3)).map (·.size)=some 1
 s4:(P.info? (ρ.t 4)).map (·.size)=some 1
 s24:(P.info? (ρ.t 24)).map (·.size)=some 1
 v0:(P.info? (ρ.t 0)).bind (·.zero)=some (Value.tuple #[])
 v3:(P.info? (ρ.t 3)).bind (·.zero)=some (Value.int IntKind.i64 0)
 v4:(P.info? (ρ.t 4)).bind (·.zero)=some (Value.bool false)
 v24:(P.info? (ρ.t 24)).bind (·.zero)=some (Value.slice none 0 0)
theorem YX.ins(h:YX P ρ)(hm:P.follows .mixedOrders=true)(f22:P.funcs[ρ.f 22]? =some { Body2.n22 ρ with name:=nm })(n22:(nm== "runtime.NumGoroutine")=false)(f29:P.funcs[ρ.f 29]? =some fv)(n29:(fv.name== "runtime.NumGoroutine")=false)
  (b29:fv.body.isNone=true) (e29:Extern.findNext fv=none) (x29:Extern.find fv=some (Extern.SlicesOverlaps.overlaps #[(ρ.t 24),(ρ.t 24)] #[(ρ.t 4)])):UQ P ρ nm fv:=
 ⟨hm,f22,n22,f29,n29,b29,e29,x29,h.t0,run_isAgg_plain h.t0 rfl,LX h.s0,QL h.v0,h.t3,run_isAgg_plain h.t3 rfl,LX h.s3,QL h.v3,h.t4,run_isAgg_plain h.t4 rfl,LX h.s4,QL h.v4,h.t24,run_isAgg_plain h.t24 rfl,LX h.s24,QL h.v24⟩
theorem YX.del(h:YX P ρ)(hm:P.follows .mixedOrders=true)(f24:P.funcs[ρ.f 24]? =some { Body2.n24 ρ with name:=nm })(n24:(nm== "runtime.NumGoroutine")=false):bO P ρ nm:=
 ⟨hm,f24,n24,h.t0,run_isAgg_plain h.t0 rfl,LX h.s0,QL h.v0,h.t3,run_isAgg_plain h.t3 rfl,LX h.s3,QL h.v3,h.t4,run_isAgg_plain h.t4 rfl,LX h.s4,QL h.v4,h.t24,run_isAgg_plain h.t24 rfl,LX h.s24,QL h.v24⟩
@[reducible] def GQ (f22 f24 f29 f30 t24 t9:Nat):Ren:=⟨fun k=>if k=22 then f22 else if k=24 then f24 else if k=29 then f29 else if k=30 then f30 else k,fun k=>if k=24 then t24 else if k=9 then t9 else k,fun k=>k⟩
def yR{T:GH}(hT:DO P T)(L:UQ P ρ nm fv){r:Ty}{f:Nat}(hf:ρ.f 22=f)(RJ:T.JB (ρ.t 24) r=true)(hr:(r.flat&&(decide (mk r=1)&&decide (0<r.n)))=true)(g:(dQ r).Cu (Option (kq r).V))
  (hg:∀v:(dQ r).V,(dQ r).un g v=(iD v.1.2.1 v.1.2.2.1 v.2.1).map fun l=>(((),()),((),l,()))):SP P:=
 ⟨f,⟨dQ r,kq r,(dQ r).un g⟩,by
  simp only[AE1,AFS]at hr;rw[funext hg,←hf];grind[fE]⟩
def AEl{T:GH}(hT:DO P T)(L:bO P ρ nm){r:Ty}{f:Nat}(m:Nat)(hf:ρ.f 24=f)(RJ:T.JB (ρ.t 24) r=true)(hr:decide (0<r.n)=true)(g:(eN (m+1) r).Cu (Option (kW (m+1) r).V))
  (hg:∀v:(eN (m+1) r).V,(eN (m+1) r).un g v=(pv v.1.2.1 v.1.2.2.1 v.2.1).map fun l=>(((),()),((),l,()))):SP P:=
 ⟨f,⟨eN (m+1) r,kW (m+1) r,(eN (m+1) r).un g⟩,by
  rw[funext hg,←hf];exact gJ hT L RJ (of_decide_eq_true hr) m⟩
end
end Go.Fw
end
