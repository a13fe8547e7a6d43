/- The framework, part 2: a checked interpreter of the model's code over abstract states; no claim is made here. -/
import Derived.Test.YtdkfcaidapdecaaGreatF0
import Derived.Below
import Derived.ChangeArms
import Derived.ChangeOld
import Derived.DataReads
import Derived.OrdersHeld
import Derived.Shelf.Slices.Delete
import Derived.Shelf.Spec.SlicesInsertGrow
import Derived.Tactics
set_option linter.unusedVariables false
set_option linter.unusedSimpArgs false
set_option linter.unusedSectionVars false
section
namespace Go.Fw
def alive(l:List BP)(i:Nat):Bool:=
 match l[i]? with
 |some .gone=>false
 |some _=>true
 |none=>false
def AP.ME(l:List BP):AP→Bool
 | .sl s _=>s
 | .nV _=>false
 | .lC _ _=>false
 | .q7 _ _=>false
 | .ref i=>decide (i<l.length)
 | .ptr i _=>alive l i
 | .fn _ Ky=>Ky.all (alive l)
 |_=>true
def XP.ME(l:List BP):XP→Bool
 | .c p=>p.ME l
 | .agg q=>q.all (AP.ME l)
 | .M3 q=>q.all fun| .inl p=>p.ME l| .inr q=>q.all (AP.ME l)
 | .row _=>false
def BP.ME(l:List BP):BP→Bool
 | .mem q=>q.all (AP.ME l)
 |_=>true
def kinds:List BP→List BP→Bool
 |[],_=>true
 | .mem _::l,.mem _::m=>kinds l m
 | .sl _ r::l,.sl _ q::m=>decide (r=q)&&kinds l m
 | .mem _::l,.gone::m=>kinds l m
 | .sl _ _::l,.gone::m=>kinds l m
 |_,_=>false
def kh(l:List BP):List (Nat×XP)→Bool
 |[(0,p)]=>p.ME l
 |_=>false
def QJ.ok(c:QJ):Bool:=
 kinds c.ins.G6 c.outs.G6&&kh c.outs.G6 c.outs.D2&&c.outs.G6.all (BP.ME c.outs.G6)
theorem Xh:∀{l m:List BP},kinds l m=true→l.length≤m.length∧ ∀(i:Nat) p,l[i]? =some p→p≠ .gone∧ ∀d r,m[i]? =some (.sl d r)→ ∃d',p= .sl d' r
 |[],m,_=>⟨by simp,fun i p h=>by simp at h⟩
 | .gone::l,[],h=>by simp[kinds]at h
 | .gone::l,_::_,h=>by simp[kinds]at h
 | .mem _::l,[],h=>by simp[kinds]at h
 | .sl _ _::l,[],h=>by simp[kinds]at h
 | .mem q::l,.mem _::m,h=>by
  obtain⟨h1,h2⟩:=Xh (l:=l) (m:=m) (by simpa[kinds]using h);grind
 | .mem q::l,.gone::m,h=>by
  obtain⟨h1,h2⟩:=Xh (l:=l) (m:=m) (by simpa[kinds]using h);grind
 | .mem q::l,.sl _ _::m,h=>by simp[kinds]at h
 | .sl d0 r0::l,.sl _ q::m,h=>by
  simp only[kinds,ANN,AOH]at h;obtain⟨h1,h2⟩:=Xh (l:=l) (m:=m) h.2;grind
 | .sl d0 r0::l,.gone::m,h=>by
  obtain⟨h1,h2⟩:=Xh (l:=l) (m:=m) (by simpa[kinds]using h);grind
 | .sl _ _::l,.mem _::m,h=>by simp[kinds]at h
def YK(P:Program)(f:Nat)(c:QJ):Prop:=
 c.ok=true∧(∀args w,(callFunc f args).run P w= .ok (.enter f args) w)∧
 ∀(E:Env) (w:World) (v:c.ins.V) (args:Array Value) (u:c.outs.V),args.size=c.ins.D2.length→
  C8 E w (J6.mk id c.ins.G6 v.2) (J6.mk id c.ins.G6 v.2) []→Oy E w (J6.mk id c.ins.G6 v.2) id c.ins.D2 v.1 args.toList→c.g v=some u→
  Calls P f args w fun e w' => ∃x E',e= .returned x∧dZ E w E' w'∧C8 E' w' (J6.mk id c.outs.G6 u.2) (J6.mk id c.outs.G6 u.2) []∧
   Oy E' w' (J6.mk id c.outs.G6 u.2) id c.outs.D2 u.1 [x]∧ ∀i,i<c.ins.G6.length→alive c.outs.G6 i=true→E'.IE i=E.IE i∧E'.IF i=E.IF i
theorem i_:∀x:AV,Gt [] x=x
 | .ref b (s::p)=>by rfl
 | .ref b []=>rfl
 | .win b (s::p) i n=>by rfl
 | .win b [] i n=>rfl
 | .Jn b (s::p) i sz j=>by rfl
 | .Jn b [] i sz j=>rfl
 | .v _ _=>rfl
 | .sl _ _ _=>rfl
 | .nil=>rfl
 | .Ik _ _=>rfl
 | .P4 _ _ _ _=>rfl
 | .fn _ _=>rfl
 | .q7 _ _=>rfl
 | .xd=>rfl
 | .undef=>rfl
theorem aP:Gt []=id:=funext i_
theorem uF:∀x:XV,Vq [] x=x
 | .c x=>by simp[Vq,i_]
 | .agg l=>by simp[Vq,aP]
 | .M3 l=>by
  simp only[Vq,aP];congr 1
  conv=>rhs;rw[←List.map_id l]
  apply AS5;intro x _;cases x with
  |inl x=>simp
  |inr q=>simp
theorem sI(m:QA)(σ:St):(σ.aM m).tm=σ.tm.map (Vq m):=by
 cases m with
 |nil=>
  simp only[St.aM];have:Vq []=id:=funext uF;simp_all
 |cons _ _=>rfl
theorem ACH(m:QA)(σ:St):(σ.aM m).bx=σ.bx.map (Bx.map (Gt m)):=by
 cases m with
 |nil=>grind[St.aM,aP,aj]
 |cons _ _=>
  rfl
theorem eN(f:AV→AV):∀(m:QA) (bx:List Bx),Cx (bx.map (Bx.map f)) m=(Cx bx m).map (Bx.map f)
 |[],_=>rfl
 |none::m,bx=>by simp only[Cx];exact eN f m bx
 |some b::m,bx=>by
  simp only[Cx];rw[←eN f m (bx.set b .dead),List.map_set];rfl
theorem Rn:∀{m:QA} {bx:List Bx} {b:Nat},some b∉m→(Cx bx m)[b]? =bx[b]?
 |[],_,_,_=>rfl
 |none::m,bx,b,h=>by simp only[Cx];exact Rn (by simp_all)
 |some c::m,bx,b,h=>by
  simp only[Cx];rw[Rn (by simp_all),ASc (by grind)]
theorem AA8{E E':Env}{w w':World}{vw vw':List Bx}{m:QA}(k:Tg E w vw E' w' (Cx vw' m))
  (hb:∀b d' r C0,some b∈m→vw'[b]? =some (.sl d' r C0)→ ∃d rows,vw[b]? =some (.sl d r rows)∧List.length C0=List.length rows∧E'.IF b=E.IF b) (hlen:vw.length≤vw'.length) {x:AV} {v:Value} (h:VR E w vw x v):VR E' w' vw' (Gt m x) v:=by
 have h1:=GS k h;have ed:∀{b'},some b'∉m→(Cx vw' m)[b']? =vw'[b']?:=fun e=>Rn e
 have get:∀{b'},b'<vw.length→ ∃B,vw'[b']? =some B:=fun hl=>⟨_,AM4 (by omega)⟩
 cases x with
 |v t x=>exact h1
 |sl s r x=>exact h1
 |nil=>exact h1
 |Ik c j=>exact⟨by simpa[Kg]using h1.1,h1.2⟩
 |P4 s r x j=>exact h1
 |fn f Ky=>exact⟨fun c hc=>by simpa[Kg]using h1.1 c hc,h1.2⟩
 |q7 f rows=>exact h1
 |xd=>exact h1
 |undef=>trivial
 |ref c p=>
  have other:some c∉m→VR E' w' vw' (.ref c p) v:=fun e=>by
   grind[VR]
  cases p with
  |nil=>
   simp only[Gt];by_cases e:some c∈m
   ·simp only[VR]at h⊢
    obtain⟨h0,h⟩:=h;refine⟨h0,?_⟩;cases hc:vw[c]? with
    |none=>simp_all
    |some B=>
     obtain⟨B',UA⟩:=get (ANF.1 hc).1;rw[UA];cases B' with
     |mem cs=>trivial
     |dead=>trivial
     |sl d' r C0=>
      obtain⟨d,rows,e1,e2,e3⟩:=hb c d' r C0 e UA;rw[e1]at h;refine⟨by simp[DE],⟨_,rfl⟩,?_⟩;grind[DA]
   simp_all
  |cons s p=>
   simp only[Gt];split
   ·trivial
   simp_all
 |win c p off n=>
  have other:some c∉m→VR E' w' vw' (.win c p off n) v:=fun e=>by
   grind[VR]
  cases p with
  |nil=>
   simp only[Gt];by_cases e:some c∈m
   ·simp only[VR]at h⊢
    obtain⟨h0,h⟩:=h;refine⟨h0,?_⟩;cases hc:vw[c]? with
    |none=>simp_all
    |some B=>
     obtain⟨B',UA⟩:=get (ANF.1 hc).1;rw[UA];cases B' with
     |mem cs=>trivial
     |dead=>trivial
     |sl d' r C0=>
      obtain⟨d,rows,e1,e2,e3⟩:=hb c d' r C0 e UA;rw[e1]at h;obtain⟨_,q,ys,a,len,cap,g1,g2,g3,g4⟩:=h;simp only[HE,ANB,AOQ]at g1;obtain⟨rfl,g1⟩:=g1;obtain rfl:=ASX g1;rw[DA]at g3;exact⟨by simp[DE],r,C0,a,len,cap,rfl,by omega,by grind[DA],g4⟩
   simp_all
  |cons s p=>
   simp only[Gt];split
   ·trivial
   simp_all
 |Jn c p i sz j=>
  have other:some c∉m→VR E' w' vw' (.Jn c p i sz j) v:=fun e=>by
   grind[VR]
  cases p with
  |nil=>
   simp only[Gt];by_cases e:some c∈m
   ·simp only[VR]at h⊢
    obtain⟨h0,h⟩:=h;refine⟨h0,?_⟩;cases hc:vw[c]? with
    |none=>simp_all
    |some B=>
     obtain⟨B',UA⟩:=get (ANF.1 hc).1;rw[UA];cases B' with
     |mem cs=>trivial
     |dead=>trivial
     |sl d' r C0=>
      obtain⟨d,rows,e1,e2,e3⟩:=hb c d' r C0 e UA;rw[e1]at h;obtain⟨_,q,ys,bb,o,len,cap,g1,g2,g3,g4⟩:=h;simp only[HE,ANB,AOQ]at g1;obtain⟨rfl,g1⟩:=g1;obtain rfl:=ASX g1;rw[DA]at g3;exact⟨by simp[DE],r,C0,bb,o,len,cap,rfl,by omega,by grind[DA],g4⟩
   simp_all
  |cons s p=>
   simp only[Gt];split
   ·trivial
   simp_all
theorem ABy{E E':Env}{w w':World}{vw vw':List Bx}{m:QA}(k:∀x v,VR E w vw x v→VR E' w' vw' (Gt m x) v){x:XV}{v:Value}(h:XR E w vw x v):XR E' w' vw' (Vq m x) v:=by
 cases x with
 |c x=>exact k x v h
 |agg l=>
  obtain⟨vs,rfl,Wl⟩:=h;exact⟨vs,rfl,CW.Lk _ k Wl⟩
 |M3 l=>
  obtain⟨vs,rfl,Wl⟩:=h;refine⟨vs,rfl,CW.Lk _ (fun x v hx=> ?_) Wl⟩;cases x with
  |inl x=>exact k x v hx
  |inr q=>
   obtain⟨us,rfl,hus⟩:=hx;exact⟨us,rfl,CW.Lk _ k hus⟩
def MX(Jw:Nat→Nat):Nat→List Bx→List Bx→List Bx
 |_,[],bx=>bx
 |i,B::l,bx=>MX Jw (i+1) l (if Jw i<bx.length then bx.set (Jw i) B else bx++[B])
theorem mK(Jw:Nat→Nat):∀(i:Nat) (l:List BP) (x:J6.V l) (bx:List Bx),ag Jw i l x bx=MX Jw i (J6.mk Jw l x) bx
 |_,[],_,_=>rfl
 |i,p::l,x,bx=>by simp only[ag,J6.mk,MX];exact mK Jw (i+1) l x.2 _
structure vJ (Jw:Nat→Nat) (M N:Nat):Prop where
 lt:∀k,k<M→Jw k<N
 eq:∀k,M≤k→Jw k=N+(k-M)
 inj:∀k k',k<M→k'<M→Jw k=Jw k'→k=k'
theorem vJ.AU8{Jw:Nat→Nat}{M N:Nat}(h:vJ Jw M N){k k':Nat}(e:Jw k=Jw k'):k=k':=by
 by_cases h1:k<M
 ·by_cases h2:k'<M
  ·exact h.inj k k' h1 h2 e
  ·have:=h.lt k h1
   have:=h.eq k' (by omega);omega
 ·by_cases h2:k'<M
  ·have:=h.lt k' h2
   have:=h.eq k (by omega);omega
  ·have:=h.eq k (by omega)
   have:=h.eq k' (by omega);omega
theorem gH{Jw:Nat→Nat}{M N:Nat}(h:vJ Jw M N):∀{l:List Bx} {i:Nat} {bx:List Bx},bx.length=N+(i-M)→
  (MX Jw i l bx).length=N+(i+l.length-M)∧(∀(j:Nat) B,l[j]? =some B→(MX Jw i l bx)[Jw (i+j)]? =some B)∧
   ∀n,n<bx.length→(∀j,j<l.length→Jw (i+j)≠n)→(MX Jw i l bx)[n]? =bx[n]?
 |[],i,bx,hl=>⟨by grind[MX],fun j B hj=>by simp_all,fun _ _ _=>rfl⟩
 |B::l,i,bx,hl=>by
  simp only[MX];have j0:(if Jw i<bx.length then bx.set (Jw i) B else bx++[B]).length=N+(i+1-M):=by
   split
   ·rename_i G4
    by_cases hi:i<M
    ·grind
    ·have:=h.eq i (by omega);omega
   ·rename_i G4
    by_cases hi:i<M
    ·have:=h.lt i hi;omega
    grind
  have bN:(if Jw i<bx.length then bx.set (Jw i) B else bx++[B])[Jw i]? =some B:=by
   split
   ·simp_all
   ·rename_i G4
    by_cases hi:i<M
    ·grind
    ·have:=h.eq i (by omega)
     grind
  obtain⟨q1,q2,q3⟩:=gH h (l:=l) j0;refine⟨by grind,fun j C hj=> ?_,fun n hn ea=> ?_⟩
  ·cases j with
   |zero=>
    simp at hj;subst hj;exact(q3 (Jw i) (ANF.1 bN).1 (fun j hj e=>by have:=h.AU8 e;omega)).trans bN
   |succ j=>
    grind
  ·have AZM:=ea 0 (by simp)
   rw[ATG]at AZM;rw[q3 n (by omega) (fun j hj=>by have:=ea (j+1) (by simp_all);grind)];grind
theorem eo{Jw:Nat→Nat}{M N:Nat}(h:vJ Jw M N){E:Env}{w:World}{vw:List Bx}:∀{l:List Bx} {i:Nat} {bx:List Bx} {Fs:List ABG},bx.length=N+(i-M)→(∀k,i≤k→k<M→bx[Jw k]? =some .dead)→
  Fs.length=l.length→(∀(j:Nat) B F,l[j]? =some B→Fs[j]? =some F→ou E w vw (Jw (i+j)) B F)→C8 E w vw bx Fs.flatten→C8 E w vw (MX Jw i l bx) []
 |[],i,bx,Fs,hl,hd,hF,hB,vF=>by
  grind[List.eq_nil_of_length_eq_zero,MX]
 |B::l,i,bx,F::Fs,hl,hd,hF,hB,vF=>by
  simp only[MX];have hBi:=hB 0 B F rfl rfl;rw[ATG]at hBi;have next:∀{RI},RI.length=N+(i+1-M)→(∀k,i+1≤k→k<M→RI[Jw k]? =some .dead)→C8 E w vw RI Fs.flatten→C8 E w vw (MX Jw (i+1) l RI) []:=by
   intro RI h1 h2 h3;refine eo h h1 h2 (by simp_all) (fun j C G hC hG=> ?_) h3;have:=hB (j+1) C G (by simp_all) (by simp_all);grind
  rw[ATF]at vF;by_cases hi:i<M
  ·have G4:=h.lt i hi
   rw[AM1 (by omega)];refine next (by grind) (fun k hk1 hk2=> ?_) (vF.put (hd i (AQQ _) hi) hBi);rw[ASc (fun e=>by have:=h.AU8 e;omega)];grind
  ·have heq:=h.eq i (by omega)
   rw[AM2 (by omega)];have e1:Jw i=bx.length:=by omega
   rw[e1]at hBi;exact next (by grind) (fun k hk1 hk2=>by omega) (vF.push hBi)
 |_::_,_,_,[],_,_,hF,_,_=>by simp_all
structure uB (E' E2:Env) (l:List BP) (u:J6.V l) (vw2:List Bx) (Jw:Nat→Nat):Prop where
 ids:∀i,alive l i=true→E2.IE (Jw i)=E'.IE i∧E2.IF (Jw i)=E'.IF i
 bx:∀(i:Nat) p,l[i]? =some p→ ∃y,(J6.mk id l u)[i]? =some (p.mk id y)∧vw2[Jw i]? =some (p.mk Jw y)
 S:E2.S=E'.S
theorem bc(Jw:Nat→Nat):∀{l:List BP} {u:J6.V l} {i:Nat} {p:BP},l[i]? =some p→ ∃y:p.V,(J6.mk id l u)[i]? =some (p.mk id y)∧(J6.mk Jw l u)[i]? =some (p.mk Jw y)
 |q::l,u,0,p,h=>by
  simp at h;subst h;exact⟨u.1,rfl,rfl⟩
 |q::l,u,i+1,p,h=>by
  obtain⟨y,h1,h2⟩:=bc Jw (u:=u.2) (i:=i) (by simpa using h);grind[J6.mk]
 |[],_,_,_,h=>by simp at h
theorem UN(Jw:Nat→Nat):∀{l:List BP} {u:J6.V l},(J6.mk Jw l u).length=l.length
 |[],_=>rfl
 |_::l,u=>by simp[J6.mk,UN Jw (l:=l)]
section
variable{E' E2:Env} {w:World} {l:List BP} {u:J6.V l} {vw2:List Bx} {Jw:Nat→Nat} (r:uB E' E2 l u vw2 Jw)
include r
omit r in
theorem tE{i:Nat}(h:alive l i=true):∃p,l[i]? =some p∧p≠ .gone:=by
 unfold alive at h;cases e:l[i]? with
 |none=>rw[e]at h;cases h
 |some p=>
  refine⟨p,rfl,fun hp=> ?_⟩;rw[e,hp]at h;cases h
theorem xX{p:AP}{y:p.V}{v:Value}(FW:p.ME l=true)(h:VR E' w (J6.mk id l u) (p.mk id y) v):VR E2 w vw2 (p.mk Jw y) v:=by
 cases p with
 |v t=>exact h
 |sl s q=>
  simp only[AP.ME]at FW;subst FW;simp only[AP.mk,VR,ASi]at h⊢;rw[r.S];omega
 |nil=>exact h
 |ref i=>
  simp only[AP.ME,AOH]at FW;obtain⟨p,hp⟩:∃p,l[i]? =some p:=⟨_,AM4 FW⟩;obtain⟨z,z1,z2⟩:=r.bx i p hp;simp only[AP.mk,VR,id]at h⊢;refine⟨h.1,?_⟩;have h2:=h.2;rw[z1]at h2;rw[z2];cases p with
  |mem q=>trivial
  |gone=>trivial
  |sl d q=>
   have hid:=(r.ids i (by simp[alive,hp])).2;grind[BP.mk]
 |ptr i j=>
  simp only[AP.ME]at FW;obtain⟨p,hp,hg⟩:=tE FW;obtain⟨z,z1,z2⟩:=r.bx i p hp;refine⟨(ANF.1 z2).1,?_⟩;rw[(r.ids i FW).1];exact h.2
 |nV q=>simp[AP.ME]at FW
 |lC i sz=>simp[AP.ME]at FW
 |q7 f rs=>simp[AP.ME]at FW
 |fn f Ky=>
  simp only[AP.ME,ASw]at FW;obtain⟨h1,h2⟩:=h;refine⟨fun b hb=> ?_,?_⟩
  ·obtain⟨i,hi,rfl⟩:=ATD.1 hb
   obtain⟨p,hp,_⟩:=tE (FW i hi);obtain⟨z,_,z2⟩:=r.bx i p hp;grind
  ·rw[h2,AUL]
   congr 2
   rw[AUL];apply AS5;intro i hi;simp only[Function.comp,id,(r.ids i (FW i hi)).1]
 |any=>trivial
theorem oC:∀{q:List AP} {y:Yk.V q} {vs:List Value},q.all (AP.ME l)=true→jj E' w (J6.mk id l u) (Yk.mk id q y) vs→jj E2 w vw2 (Yk.mk Jw q y) vs
 |[],_,[],_,_=>trivial
 |[],_,_::_,_,h=>h.elim
 |p::q,y,[],_,h=>h.elim
 |p::q,y,v::vs,FW,h=>by
  simp only[AS4,ANN]at FW;exact⟨xX r FW.1 h.1,oC FW.2 h.2⟩
theorem uH:∀{q:List (AP ⊕ List AP)} {y:Yq.V q} {vs:List Value},(q.all fun| .inl p=>p.ME l| .inr q=>q.all (AP.ME l))=true→CW (TR E' w (J6.mk id l u)) (Yq.mk id q y) vs→CW (TR E2 w vw2) (Yq.mk Jw q y) vs
 |[],_,[],_,_=>trivial
 |[],_,_::_,_,h=>h.elim
 | .inl p::q,y,[],_,h=>h.elim
 | .inr p::q,y,[],_,h=>h.elim
 | .inl p::q,y,v::vs,FW,h=>by
  simp only[AS4,ANN]at FW;exact⟨xX r FW.1 h.1,uH FW.2 h.2⟩
 | .inr p::q,y,v::vs,FW,h=>by
  simp only[AS4,ANN]at FW;obtain⟨us,e,hus⟩:=h.1;exact⟨⟨us,e,oC r FW.1 hus⟩,uH FW.2 h.2⟩
theorem ASG{p:XP}{y:p.V}{v:Value}(FW:p.ME l=true)(h:XR E' w (J6.mk id l u) (p.mk id y) v):XR E2 w vw2 (p.mk Jw y) v:=by
 cases p with
 |c p=>exact xX r FW h
 |agg q=>
  obtain⟨vs,e,Wl⟩:=h;exact⟨vs,e,oC r FW Wl⟩
 |row q=>simp[XP.ME]at FW
 |M3 q=>
  obtain⟨vs,e,Wl⟩:=h;exact⟨vs,e,uH r FW Wl⟩
theorem AOO{i:Nat}{p:BP}{y:p.V}{F:ABG}(hi:l[i]? =some p)(FW:p.ME l=true)(h:ou E' w (J6.mk id l u) i (p.mk id y) F):ou E2 w vw2 (Jw i) (p.mk Jw y) F:=by
 cases p with
 |mem q=>
  obtain⟨h1,arr,ty,fr,h2,h3,h4⟩:=h;have hid:=(r.ids i (by simp[alive,hi])).1;exact⟨by simp_all,arr,ty,fr,by simp_all,h3,oC r FW h4⟩
 |sl d q=>
  obtain⟨h1,h2⟩:=h;refine⟨h1,?_⟩;rw[(r.ids i (by simp[alive,hi])).2,r.S];omega
 |gone=>exact h
end
end Go.Fw
end
section
namespace Go.Fw
theorem tb{s:A6}{N:Nat}{m0 m:QA}{tm:List XV}{bx:List Bx}{x:s.V}(e:s.fit N m0 tm bx=some (x,m)):∀(k:Nat) p,s.G6[k]? =some p→p≠ .gone→ ∃b B,m[k]? =some (some b)∧bx[b]? =some B∧B≠ .dead∧
  ∀d r,p= .sl d r→ ∃d' rows,B= .sl d' r rows:=by
 simp only[A6.fit,ANU,AND]at e;obtain⟨m1,e1,m2,e2,a,e3,c,e4,e5⟩:=e;cases e5;obtain⟨q1,q2⟩:=Sj (Jw:=id) e4;grind
theorem ADx(n:Nat):qW (List.replicate n none):=fun i j b h=>by
 grind
theorem yW{w:World}{B B':Nat→Prop}{w':World}{r:Ty}{v:Value}{x y:List r.D}(h:Rd w B (.sl r) [v] x)(h':Rd w' B' (.sl r) [v] y):y.length=x.length:=by
 simp only[Rd]at h h';grind
section
variable{Y:Type} {P:Program} {E:Env} {σ:St} {a:Act} {w:World} {k:K Y} {y:Y}
theorem re{E' E2:Env}{l:List BP}{u:J6.V l}{vw2:List Bx}{Jw:Nat→Nat}(r:uB E' E2 l u vw2 Jw):∀{sl:List (Nat×XP)} {z:G9.V sl} {x:Value},
  kh l sl=true→Oy E' w (J6.mk id l u) id sl z [x]→XR E2 w vw2 (fG sl z Jw) x
 |[(0,p)],z,x,FW,h=>by
  obtain⟨⟨v,hv,hx⟩,_⟩:=h;simp at hv;subst hv;exact ASG r FW hx
 |[],_,_,FW,_=>by simp[kh]at FW
 |(_+1,_)::_,_,_,FW,_=>by simp[kh]at FW
 |(0,_)::_::_,_,_,FW,_=>by simp[kh]at FW
def fL(c:QJ)(xs:List XV)(σ:St):ABG:=
 match c.ins.fit σ.bx.length c.ins.m0 xs (c.ins.opens σ.bx)with
 |some (_,m)=>m.filterMap id
 |none=>[]
theorem s8(h:Rel E σ a w)(s:A6):∃E',Rel E' { σ with bx:=s.opens σ.bx } a w∧SD [] E σ.bx w E' (s.opens σ.bx) w∧(∀(i:Nat) d r,s.G6[i]? =some (.sl d r)→E'.IF (σ.bx.length+i)= .slice none 0 0)∧
  (∀x v,XR E w σ.bx x v→XR E' w (s.opens σ.bx) x v):=by
 let E':Env:={ E with IF:=fun k=>if k<σ.bx.length then E.IF k else .slice none 0 0 }
 have hlen:σ.bx.length≤(s.opens σ.bx).length:=by simp[A6.opens]
 have hold:∀b,b<σ.bx.length→(s.opens σ.bx)[b]? =σ.bx[b]?:=fun b hb=>by grind[A6.opens,List.getElem?_append_left]
 have nL:∀b,b<σ.bx.length→E'.IF b=E.IF b:=fun b hb=>by grind
 have keep:Tg E w σ.bx E' w (s.opens σ.bx):=
  ⟨hlen,fun _ _=>rfl,fun _ h=>h,fun _ h=>h,h.bx.st,fun _ _=>rfl,fun b d r rows hb e=>⟨d,rows,by simp_all,fun p hp q ys hg=>⟨hp,⟨ys,hg,rfl⟩,fun hh he=>by simp_all⟩⟩⟩
 obtain⟨Fs,⟨f1,f2⟩,f3⟩:=h.bx;refine⟨E',⟨h.OO,h.tm.imp fun _ _ hx=>PX keep hx,?_⟩,?_,fun i d r hi=>by grind,fun x v hx=>PX keep hx⟩
 ·refine⟨Fs++List.replicate s.G6.length [],⟨by simp[A6.opens,f1],fun n B F hB hF=> ?_⟩,?_⟩
  ·by_cases hn:n<σ.bx.length
   ·rw[hold n hn]at hB
    rw[AOw (by omega)]at hF;have:=f2 n B F hB hF;cases B with
    |mem cs=>
     obtain⟨rfl,arr,ty,fr,a1,a2,a3⟩:=this;exact⟨rfl,arr,ty,fr,a1,a2,a3.imp fun _ _ hv=>GS keep hv⟩
    |sl d r rows=>exact⟨this.1,by rw[nL n hn];exact this.2⟩
    |dead=>exact this
   ·rw[AP3 (by omega)]at hF
    have hF':F=[]:=AS9 (APx hF);subst hF';simp only[A6.opens]at hB;rw[AP3 (by omega),ASa,AND]at hB;obtain⟨p,_,rfl⟩:=hB;have hh:E'.IF n= .slice none 0 0:=by grind
    cases p with
    |mem q=>rfl
    |gone=>rfl
    |sl d r=>exact⟨by omega,by rw[hh];exact oH⟩
  ·have:(Fs++List.replicate s.G6.length []).flatten=Fs.flatten:=by simp
   rw[this];exact⟨f3.nodup,f3.free,f3.lt,f3.st,f3.dV⟩
 ·refine⟨⟨fun _ h=>h,fun _ h=>h,fun _ h=> .inl h,fun _ h=> .inl h,fun _ _=>rfl,rfl,rfl,rfl,AQQ _⟩,hlen,fun b hb=>⟨rfl,nL b hb⟩,fun b hb=> ?_,fun n B B' _ hB UA hd=> ?_⟩
  ·grind
  ·rw[hold n (ANF.1 hB).1,hB]at UA
   cases UA;exact⟨Vy.refl hd,fun _ _=>rfl⟩
theorem SD.after{t:ABG}{E E' E'':Env}{bx RI ATk:List Bx}{w w':World}(h:SD [] E bx w E' RI w)(hb:∀b,b<bx.length→RI[b]? =bx[b]?)(k:SD t E' RI w E'' ATk w'):SD t E bx w E'' ATk w':=
 ⟨h.base.trans k.base,ASY h.len k.len,fun b G4=>⟨(k.ids b (ASn G4 h.len)).1.trans (h.ids b G4).1,(k.ids b (ASn G4 h.len)).2.trans (h.ids b G4).2⟩,fun b hd=>k.dead b (h.dead b hd),fun n B B' hn hB UA hd=>by
  have G4:=(ANF.1 hB).1;obtain⟨k1,k2⟩:=k.frame n B B' hn (by simp_all) UA hd;refine⟨k1,fun c hc=>k2 c ?_⟩;cases B with
  |mem cs=>simp only[xQ]at hc⊢;rw[(h.ids n G4).1];omega
  |sl d r rows=>simp only[xQ]at hc⊢;rw[(h.ids n G4).2];omega
  |dead=>exact hc⟩
def AMG(c:QJ)(N:Nat)(xs:List XV)(σ:St)(k:K Y):Option Y:=
 match c.ins.fit N c.ins.m0 xs σ.bx with
 |some (v,m)=>(c.g v).bind fun u=>
  let Jw:=Yv m σ.bx.length
  let σ1:=σ.aM m
  k (fG c.outs.D2 u.1 Jw) { σ1 with bx:=ag Jw 0 c.outs.G6 u.2 (Cx σ1.bx m) }
 |none=>none
def yv(c:QJ)(N:Nat)(xs:List XV)(σ:St):ABG:=
 match c.ins.fit N c.ins.m0 xs σ.bx with
 |some (_,m)=>m.filterMap id
 |none=>[]
theorem yT{f:Nat}{c:QJ}(hc:YK P f c)(h:Rel E σ a w){N0:Nat}(wT:∀(i:Nat) d r,c.ins.G6[i]? =some (.sl d r)→E.IF (N0+i)= .slice none 0 0){xs:List XV}{vs:List Value}(hxs:CW (XR E w σ.bx) xs vs)(hlen:xs.length=c.ins.D2.length)(e:AMG c N0 xs σ k=some y):
  Calls P f vs.toArray w fun e w' => ∃x E' xv σ',e= .returned x∧Rel E' σ' a w'∧XR E' w' σ'.bx xv x∧SD (yv c N0 xs σ) E σ.bx w E' σ'.bx w'∧σ'.tm.length=σ.tm.length∧k xv σ' =some y:=by
 obtain⟨FW,_,sH⟩:=hc;simp only[QJ.ok,ANN]at FW;obtain⟨⟨hk,hslot⟩,hbo⟩:=FW;obtain⟨hklen,hk⟩:=Xh hk;unfold AMG at e;split at e
 case h_2=>cases e
 rename_i v m dv;simp only[ANU]at e;obtain⟨u,hg,e⟩:=e;obtain⟨_,E1,hf⟩:=lS h.bx hxs wT (by simp[A6.m0]) (ADx _) dv;have P5:vs.toArray.size=c.ins.D2.length:=by grind[CW.len]
 refine(sH E1 w v vs.toArray u P5 hf.boxes (by simpa using hf.D2) hg).mono fun e' w' hR=> ?_
 obtain⟨x,E',rfl,base,⟨Fs,hFs1,hFs2⟩,D2,ACt⟩:=hR;simp only[AOC]at hFs2;obtain⟨Fk,k1,k2,k3,k4⟩:=hf.rest;have st:=h.bx.st;have dV:=h.bx.dV;have hM:m.length=c.ins.G6.length:=hf.len;have all:∀i,i<m.length→ ∃b B,m[i]? =some (some b)∧σ.bx[b]? =some B∧B≠ .dead∧ ∀d r,c.ins.G6[i]? =some (.sl d r)→ ∃d' rows,B= .sl d' r rows:=by
  intro i hi;have hp:c.ins.G6[i]? =some (c.ins.G6[i]'(by omega)):=AM4 _;grind[tb,Option.some.inj]
 let N:=σ.bx.length
 let M:=m.length
 have AJx:∀i b,m[i]? =some (some b)→Yv m N i=b:=fun i b h=>by simp[Yv,h]
 have AUS:∀i,M≤i→Yv m N i=N+(i-M):=fun i hi=>by
  grind[List.getElem?_eq_none,Yv]
 have ro:vJ (Yv m N) M N:=⟨fun i hi=>by
   grind,AUS,fun i j hi hj e=>by
   obtain⟨b,B,h1,h2,_⟩:=all i hi;obtain⟨b',B',h1',h2',_⟩:=all j hj;rw[AJx i b h1,AJx j b' h1']at e;subst e;exact hf.inj i j b h1 h1'⟩
 let E2:Env:={
   IE:=fun n=>if n<N then E.IE n else E'.IE (M+(n-N))
   IF:=fun n=>if n<N then E.IF n else E'.IF (M+(n-N))
   T:=fun c=>E.T c∨E'.S c
   S:=E'.S }
 have hS:∀c,E.S c→E'.S c:=fun d hd=>base.S d (hf.S d hd)
 have hSk:∀d∈Fk.flatten,¬E'.S d:=fun d hd hs=>by
  obtain⟨_,n2,_,n4⟩:=k3 d hd;exact(base.zt d hs).elim n2 (fun h=>h n4)
 have ADq:∀d,E.T d→w'.heap[d]? =w.heap[d]?:=fun d hd=>base.heap d (hf.T d hd)
 have AUV:∀d∈Fk.flatten,w'.heap[d]? =w.heap[d]?:=fun d hd=>base.heap d (k3 d hd).2.2.2
 have ATP:dZ E w E2 w':=⟨fun d hd=> .inl hd,hS,fun d hd=>hd,fun d hd=>by
   rcases base.zt d hd with h|h
   ·exact hf.zt d h
   ·exact .inr fun ht=>h (hf.T d ht),ADq,base.os,base.tape,base.output,base.size⟩
 let vw':=J6.mk id c.outs.G6 u.2
 let Bs:=J6.mk (Yv m N) c.outs.G6 u.2
 let bk:=(Cx σ.bx m).map (Bx.map (Gt m))
 have hbk:Cx (σ.aM m).bx m=bk:=by rw[ACH,eN]
 have Ae2:bk.length=N:=by simp[bk,Kg,N]
 let bO:=MX (Yv m N) 0 Bs bk
 have Aea:ag (Yv m N) 0 c.outs.G6 u.2 (Cx (σ.aM m).bx m)=bO:=by rw[mK,hbk]
 obtain⟨s1,s2,s3⟩:=gH ro (l:=Bs) (i:=0) (bx:=bk) (by omega);have AdO:Bs.length=c.outs.G6.length:=UN _;have p8:σ.bx.length≤bO.length:=by
  grind
 have rn:uB E' E2 c.outs.G6 u.2 bO (Yv m N):=by
  refine⟨fun i hi=> ?_,fun i p hp=> ?_,rfl⟩
  ·by_cases him:i<M
   ·obtain⟨b,B,h1,h2,_⟩:=all i him
    have hbl:b<N:=(ANF.1 h2).1;have g1:=hf.ids i b h1;grind
   grind
  ·obtain⟨z,z1,z2⟩:=bc (Yv m N) (u:=u.2) hp
   grind
 have ADg:∀n,n<N→some n∉m→bO[n]? =bk[n]?:=fun n hn hm=>by
  grind
 have keep:Tg E w σ.bx E2 w' (Cx bO m):=by
  refine⟨by rw[Kg];omega,fun b hb=>by grind,fun d hd=> .inl hd,hS,st,ADq,fun b d r rows hb hq=> ?_⟩;have hbm:some b∉m:=fun hm=>by grind[W9]
  rw[Rn hbm,ADg b hb hbm]at hq;have hq1:=AFV hq;have rb:σ.bx[b]? =some (.sl d r rows):=by
   rcases S_ (FP.refl σ.bx) b _ hq1 with e|e
   all_goals grind
  refine⟨d,rows,rb,fun p hp q ys hgp=>⟨hp,⟨ys,hgp,rfl⟩,fun h' hh=> ?_⟩⟩;have hFk:Fk[b]? =some (Fk[b]'(by rw[k1.1,Kg];omega)):=AM4 _;obtain⟨_,ho⟩:=k1.2 b _ _ hq1 hFk;have e2:E2.IF b=E.IF b:=by grind
  grind[tq,List.mem_flatten,List.mem_of_getElem?]
 have vr:∀x v,VR E w σ.bx x v→VR E2 w' bO (Gt m x) v:=fun x v hx=>by
  refine AA8 keep (fun b d' r C0 hbm hq=> ?_) p8 hx;obtain⟨i,hi,him⟩:=ASe hbm;have ARX:m[i]? =some (some b):=by grind
  obtain⟨b',B,h1,h2,h3,h4⟩:=all i hi;rw[ARX]at h1;cases h1;have hio:i<c.outs.G6.length:=by omega
  have hp:c.outs.G6[i]? =some c.outs.G6[i]:=AM4 hio;obtain⟨z,z1,z2⟩:=rn.bx i _ hp;rw[AJx i b ARX,hq]at z2;have AZd:c.ins.G6[i]? =some (c.ins.G6[i]'(by omega)):=AM4 _
  generalize c.outs.G6[i]=po at z hp z1 z2
  cases po with
  |mem q=>simp[BP.mk]at z2
  |gone=>simp[BP.mk]at z2
  |sl d0 q=>
   simp only[BP.mk,ANB,Bx.sl.injEq]at z2;obtain⟨rfl,rfl,z2⟩:=z2;obtain rfl:=ASX z2;obtain⟨d1,hpo⟩:=(hk i _ AZd).2 _ _ hp;obtain⟨d2,rows,rfl⟩:=h4 d1 r (by simp_all);have hbl:b<N:=(ANF.1 h2).1;have eh:E2.IF b=E.IF b:=by grind
   refine⟨d2,rows,h2,?_,eh⟩;obtain⟨F0,hR0,_⟩:=h.bx.take h2;have hFi:Fs[i]? =some (Fs[i]'(by rw[hFs1.1,UN];omega)):=AM4 _;obtain⟨_,xK⟩:=hFs1.2 i _ _ z1 hFi;have hal:alive c.outs.G6 i=true:=by simp[alive,hp]
   rw[(ACt i (by omega) hal).2,(hf.ids i b ARX).2]at xK;exact yW (X_ hR0.2) (X_ xK)
 have ga:c.outs.G6.all (BP.ME c.outs.G6)=true:=hbo;have rel:Rel E2 { tm:=(σ.aM m).tm,bx:=bO } a w':=by
  refine⟨h.OO,?_,?_⟩
  ·rw[sI]
   exact CW.Lk _ (fun x v hx=>ABy vr hx) h.tm
  ·refine eo ro (Fs:=Fs) (by omega) (fun i _ hi=> ?_) (by rw[hFs1.1,UN];omega) (fun j B F hB hF=> ?_) ?_
   ·obtain⟨b,B,h1,h2,_⟩:=all i hi
    rw[AJx i b h1];have hbl:b<(Cx σ.bx m).length:=by grind
    have hd:(Cx σ.bx m)[b]? =some .dead:=by
     rw[AM4 hbl];exact congrArg some (W9 (APx h1) (AM4 hbl))
    simp only[bk];rw[ASa,hd];rfl
   ·rw[AS7]
    have xR:=(ANF.1 hB).1;have hp:c.outs.G6[j]? =some (c.outs.G6[j]'(by omega)):=AM4 _;obtain⟨z,z1,z2⟩:=bc (Yv m N) (u:=u.2) hp;have UA:Bs[j]? =_:=z2;rw[hB]at UA;cases UA;exact AOO rn hp (ASw.1 ga _ (AN7 _)) (hFs1.2 j _ _ z1 hF)
   ·
    refine⟨Fk,⟨by simp[bk,k1.1],fun n B F hn hF=> ?_⟩,?_⟩
    ·simp only[bk]at hn
     rw[ASa,AND]at hn;obtain⟨B0,hn,rfl⟩:=hn;have wE:n<N:=by grind
     have h3:=k1.2 n B0 F hn hF;have hFw:∀d∈F,w'.heap[d]? =w.heap[d]?:=fun d hd=>AUV d (ASb.2 ⟨F,APx hF,hd⟩)
     have eb:E2.IE n=E.IE n:=by grind
     have eh:E2.IF n=E.IF n:=by grind
     cases B0 with
     |mem cs=>
      obtain⟨rfl,arr,ty,fr,ha,hu,hv⟩:=h3;exact⟨by rw[eb],arr,ty,fr,by simp_all,hu,CW.Lk _ vr hv⟩
     |sl d r rows=>
      refine⟨h3.1,?_⟩;rw[eh];exact Eb hS (fun d hd=>ADq d (st d hd)) hFw h3.2
     |dead=>exact h3
    ·refine⟨AOj.2 ⟨k2,hFs2.nodup,fun x hx z hz he=> ?_⟩,fun d hd ht=> ?_,fun d hd=> ?_,fun d hd=> .inr hd,fun d hd=> ?_⟩
     ·subst he
      exact hFs2.free x hz (base.T x (k3 x hx).2.2.2)
     ·rcases AOk.1 hd with hd|hd
      ·grind
      ·rcases ht with ht|ht
       ·exact hFs2.free d hd (base.T d (hf.T d ht))
       ·exact hFs2.free d hd (hFs2.st d ht)
     ·rcases AOk.1 hd with hd|hd
      ·grind
      ·exact hFs2.lt d hd
     ·rcases hd with hd|hd
      ·grind
      ·exact hFs2.dV d (hFs2.st d hd)
 have AUR:SD (yv c N0 xs σ) E σ.bx w E2 bO w':=by
  refine⟨ATP,p8,fun n hn=>⟨by grind,by grind⟩,fun n hn=> ?_,fun n B B' hnt hB UA yH=> ?_⟩
  rotate_left 1
  ·have wE:=(ANF.1 hB).1
   have hnm:some n∉m:=fun hm=>hnt (by
    simp only[yv,dv,List.mem_filterMap];simp_all)
   rw[ADg n wE hnm]at UA;simp only[bk]at UA;have hkn:(Cx σ.bx m)[n]? =some B:=by grind[Rn]
   rw[ASa,hkn]at UA;have UA:Bx.map (Gt m) B=B':=by simp_all
   have hFk:Fk[n]? =some (Fk[n]'(by rw[k1.1,Kg];omega)):=AM4 _;refine⟨?_,fun d hd=> ?_⟩
   ·subst UA
    cases B with
    |mem cs=>trivial
    |sl d r rows=>rfl
    |dead=>exact absurd rfl yH
   ·rcases fN (k1.2 n B _ hkn hFk) hd with hs|hs
    all_goals grind[List.mem_flatten,List.mem_of_getElem?]
  have wE:=(ANF.1 hn).1;have hnm:some n∉m:=fun hm=>by
   obtain⟨i,hi,him⟩:=ASe hm;grind
  rw[ADg n wE hnm];simp only[bk];rw[ASa,Rn hnm,hn];rfl
 refine⟨x,E2,fG c.outs.D2 u.1 (Yv m N),{ tm:=(σ.aM m).tm,bx:=bO },rfl,rel,re rn hslot D2,AUR,by simp[sI],?_⟩;grind
theorem ACB{f:Nat}{c:QJ}(hc:YK P f c)(h:Rel E σ a w){xs:List XV}{vs:List Value}(hxs:CW (XR E w σ.bx) xs vs)(e:mO c xs σ k=some y):
  Calls P f vs.toArray w fun e w' => ∃x E' xv σ',e= .returned x∧Rel E' σ' a w'∧XR E' w' σ'.bx xv x∧SD (fL c xs σ) E σ.bx w E' σ'.bx w'∧σ'.tm.length=σ.tm.length∧k xv σ' =some y:=by
 unfold mO at e;split at e
 case isFalse=>cases e
 rename_i hlen;obtain⟨E',h1,h2,h3,h4⟩:=s8 h c.ins;have hold:∀b,b<σ.bx.length→(c.ins.opens σ.bx)[b]? =σ.bx[b]?:=fun b hb=>by grind[A6.opens,List.getElem?_append_left]
 refine(yT (N0:=σ.bx.length) hc h1 h3 (hxs.imp fun x v hx=>h4 x v hx) hlen (k:=k) (y:=y) e).mono fun e' w' hR=> ?_
 obtain⟨x,E2,xv,σ',q0,q1,q2,q3,q4,q5⟩:=hR;exact⟨x,E2,xv,σ',q0,q1,q2,h2.after hold q3,q4,q5⟩
end
end Go.Fw
end
section
namespace Go.Fw
def gj(P:Program)(Γ:Nat→Option QJ):Prop:= ∀f c,Γ f=some c→YK P f c
theorem rJ{Γ:Nat→Option QJ}{σ:St}{o:Op}(h:pL o=false):Kl (fun _=>none) σ o=Kl Γ σ o:=by
 cases o with
 |call c=>
  obtain⟨callee,args,rX⟩:=c;cases callee with
  |value f=>simp[pL]at h
  |invoke _ _=>rfl
  |builtin b=>cases b<;>rfl
 |_=>rfl
theorem AVJ{Y:Type}{P:Program}{Γ:Nat→Option QJ}{o:Oper}{E:Env}{σ:St}{a:Act}{w:World}{k:K Y}{y:Y}{g:Nat}{c:QJ}(hsc:YK P g c)(h:Rel E σ a w){f:Operand}{args:Array Operand}{rX:Array TypeId}
  (ho:o.op= .call { callee:= .value f,args:=args,argTypes:=rX }) {ps:List Value} (bB:a.eval f= .func (.func g) #[] ps.toArray) {xs:List XV} (Is:CW (XR E w σ.bx) xs (args.toList.map a.eval++ps)) (ht:Kl Γ σ o.op=fL c xs σ)
  (e:mO c xs σ k=some y) {next:Act→World→Prop} {Q:Exit→Act→World→Prop}
  (hn:∀v w' E' x σ',Rel E' σ' a w'→XR E' w' σ'.bx x v→SD (Kl Γ σ o.op) E σ.bx w E' σ'.bx w'→σ'.tm.length=σ.tm.length→k x σ' =some y→next (a.put o.dst v) w'):o.wp P a w next Q:=by
 have sH:=ACB hsc h Is e;have kZ:(execOp a.eval o).run P w= .ok (.enter g (args.toList.map a.eval++ps).toArray) w:=by
  have e2:(args.map a.eval)++ps.toArray=(args.toList.map a.eval++ps).toArray:=by
   simp_all
  simp only[execOp,ho,resolve,bB,Deferred.ofValue,Sem.run_bind,Sem.run_pure,Result.andThen_ok,invoke,Array.empty_append,e2,hsc.2.1]
 unfold Oper.wp;rw[kZ];simp only[Oper.upon];refine sH.mono fun e w' hR=> ?_
 grind
section
variable{Y:Type} {P:Program} {T:J8} (hT:Ei P T) {Γ:Nat→Option QJ} (hΓ:gj P Γ) {o:Oper} {E:Env} {σ:St} {a:Act} {w:World} {k:K Y} {y:Y}
include hT hΓ
theorem AAQ(h:Rel E σ a w)(e:YR T Γ o σ k=some y){next:Act→World→Prop}{Q:Exit→Act→World→Prop}
  (hn:∀v w' E' x σ',Rel E' σ' a w'→XR E' w' σ'.bx x v→SD (Kl Γ σ o.op) E σ.bx w E' σ'.bx w'→σ'.tm.length=σ.tm.length→k x σ' =some y→next (a.put o.dst v) w'):o.wp P a w next Q:=by
 by_cases hc:pL o.op=false
 ·obtain⟨v,w',E',x,σ',hr,h1,h2,h3,h4,h5⟩:=AB5 hT h e hc
  rw[rJ hc]at h3;unfold Oper.wp;rcases hr with hr|⟨hr,rfl⟩
  ·rw[hr]
   exact hn v w' E' x σ' h1 h2 h3 h4 h5
  ·rw[hr]
   exact hn _ w' E' x σ' h1 h2 h3 h4 h5
 ·
  unfold pL at hc;split at hc
  case h_2=>simp_all
  rename_i f args rX ho;unfold YR at e;rw[ho]at e;dsimp only at e;split at e
  case h_3=>cases e
  ·rename_i g Ky hf
   split at e
   case h_2=>cases e
   rename_i c hg;have hv:=h.ev f;rw[hf]at hv;obtain⟨cm,bB⟩:(∀b∈Ky,b<σ.bx.length)∧a.eval f= .func (.func g) #[] (Ky.map fun b=>Value.pointer (some ⟨E.IE b,0,none⟩)).toArray:=hv;have hsc:=hΓ g c hg;have Is:CW (XR E w σ.bx) (args.toList.map σ.ev++Ky.map fun b=> .c (.Ik b 0)) (args.toList.map a.eval++Ky.map fun b=>Value.pointer (some ⟨E.IE b,0,none⟩)):=by
    refine CW.append (evs h args.toList) ?_
    clear bB hf e
    induction Ky with
    |nil=>trivial
    |cons b l ih=>exact⟨⟨cm b (by simp),rfl⟩,ih (fun c hc=>cm c (by simp[hc]))⟩
   grind[Kl,fL,AVJ]
  ·rename_i g rows hf
   split at e
   case h_2=>cases e
   rename_i c hg;have hv:=h.ev f;rw[hf]at hv;obtain⟨ps,bB,cm⟩:∃ps:List Value,a.eval f= .func (.func g) #[] ps.toArray∧CW (RA E w) rows ps:=hv;have hsc:=hΓ g c hg;have Is:CW (XR E w σ.bx) (args.toList.map σ.ev++rows.map fun q=> .c (.P4 false q.1 q.2 0)) (args.toList.map a.eval++ps):=by
    refine CW.append (evs h args.toList) ?_
    clear bB hf e
    induction rows generalizing ps with
    |nil=>
     cases ps with
     |nil=>trivial
     |cons _ _=>exact cm.elim
    |cons q l ih=>
     cases ps with
     |nil=>exact cm.elim
     |cons p ps=>
      obtain⟨⟨bb,o,cs,h1,h2,h3,h4,h5⟩,cm⟩:=cm;exact⟨⟨bb,o,cs,h1,h2,h3,h4,h5⟩,ih ps cm⟩
   grind[Kl,fL,AVJ]
end
theorem Rel.tmp{E:Env}{σ:St}{a:Act}{w:World}(h:Rel E σ a w){t:Nat}{x:XV}(e:σ.tm[t]? =some x):∃v,a.tmps[t]? =some v∧XR E w σ.bx x v:=by
 obtain⟨v,h1,h2⟩:=h.tm.get e;simp_all
def ASH:Value→Option Bool
 | .bool b=>some b
 |_=>none
theorem br{ops:Array Oper}{tmps:Array Value}{j t:Nat}(e:(ops[j]?).bind (·.dst)=some t){v:Value}(hv:tmps[t]? =some v):yielded ops tmps j=ASH v:=by
 simp only[yielded,e,AN0,hv];cases v<;>rfl
theorem oy{E:Env}{w:World}{vw:List Bx}:XR E w vw (.M3 []) undef:=⟨#[],rfl,trivial⟩
structure Ok (E0:Env) (w0:World) (N nb:Nat) (E:Env) (σ:St) (a:Act) (w:World):Prop where
 rel:Rel E σ a w
 base:dZ E0 w0 E w
 tm:σ.tm.length=N
 q9:nb≤σ.bx.length
 ids:∀i,i<nb→σ.bx[i]?≠some .dead→E.IE i=E0.IE i∧E.IF i=E0.IF i
theorem Ok.next{E0 E E':Env}{w0 w w':World}{N nb:Nat}{σ σ':St}{a a':Act}{t:ABG}(h:Ok E0 w0 N nb E σ a w)(hr:Rel E' σ' a' w')(hw:SD t E σ.bx w E' σ'.bx w')(hl:σ'.tm.length=σ.tm.length):Ok E0 w0 N nb E' σ' a' w':=
 ⟨hr,h.base.trans hw.base,hl.trans h.tm,ASY h.q9 hw.len,fun i hi hd=>by
  have h1:=hw.ids i (ASn hi h.q9);have h2:=h.ids i hi (fun hh=>hd (hw.dead i hh));simp_all⟩
theorem Ok.put{E0 E:Env}{w0 w:World}{N nb:Nat}{σ:St}{a:Act}(h:Ok E0 w0 N nb E σ a w)(dst:Option Tmp){x:XV}{v:Value}(hx:XR E w σ.bx x v):Ok E0 w0 N nb E (σ.put dst x) (a.put dst v) w:=by
 have e1:(σ.put dst x).bx=σ.bx:=by cases dst<;>rfl
 have e2:(σ.put dst x).tm.length=σ.tm.length:=by cases dst<;>simp[St.put]
 refine⟨h.rel.put dst hx,h.base,e2.trans h.tm,by rw[e1];exact h.q9,fun i hi hd=>h.ids i hi (by simp_all)⟩
theorem Ok.same{E0 E:Env}{w0 w:World}{N nb:Nat}{σ σ1:St}{a:Act}(h:Ok E0 w0 N nb E σ a w)(hr:Rel E σ1 a w)(hb:σ1.bx=σ.bx)(hl:σ1.tm.length=σ.tm.length):Ok E0 w0 N nb E σ1 a w:=
 ⟨hr,h.base,hl.trans h.tm,by rw[hb];exact h.q9,fun i hi hd=>h.ids i hi (by simp_all)⟩
end Go.Fw
end
section
namespace Go.Fw
section
variable{Y:Type}
abbrev k0:K (XV×St):=fun x σ=>some (x,σ)
theorem ABr{op:BinOp}{κ:IntKind}{a b:Int}(k:AV→Option Y):gA op κ a b k=(gA op κ a b some).bind k:=by
 cases op<;>simp[gA]<;>split<;>rfl
theorem wi{op:BinOp}{κ:IntKind}{a b:Int}(k:AV→Option Y):Zw op κ a b k=(Zw op κ a b some).bind k:=by
 unfold Zw;grind
theorem ABn{op:BinOp}{a b:AB_}(k:AV→Option Y):iu op a b k=(iu op a b some).bind k:=by
 cases op<;>simp[iu]<;>split<;>rfl
theorem pc{T:J8}{t:Nat}{op:BinOp}{a b:XV}(k:AV→Option Y):v_ T t op a b k=(v_ T t op a b some).bind k:=by
 unfold v_;grind[wi,ABr,ABn]
theorem tP{op:UnOp}{a:XV}(k:AV→Option Y):unX op a k=(unX op a some).bind k:=by
 unfold unX;grind
theorem aa{g:Bool}{a b:XV}(k:AV→Option Y):uh g a b k=(uh g a b some).bind k:=by
 unfold uh;grind
theorem MA{len:Nat}{lo hi:Option XV}(k:Nat→Nat→Option Y):O_ len lo hi k=(O_ len lo hi fun l h=>some (l,h)).bind fun p=>k p.1 p.2:=by
 unfold O_;grind
theorem zD{T:J8}{t:Nat}{σ:St}{x:XV}{lo hi:Option XV}(k:K Y):lW T t σ x lo hi k=(lW T t σ x lo hi k0).bind fun p=>k p.1 p.2:=by
 unfold lW;split
 ·split
  ·rw[MA,MA (Y:=XV×St),ATM];rfl
  ·rfl
 ·split
  ·rw[MA,MA (Y:=XV×St),ATM];rfl
  ·rfl
 ·split
  ·split
   ·rw[MA,MA (Y:=XV×St),ATM];rfl
   ·rfl
  ·rfl
 ·rfl
theorem yy{T:J8}{t:Nat}{σ:St}{x i:XV}(k:K Y):ll σ T t x i k=(ll σ T t x i k0).bind fun p=>k p.1 p.2:=by
 unfold ll;grind
theorem rl{T:J8}{t:Nat}{σ:St}{x i:XV}(k:K Y):Xc T t σ x i k=(Xc T t σ x i k0).bind fun p=>k p.1 p.2:=by
 unfold Xc;grind
theorem ABz{T:J8}{s d:Nat}{σ:St}{x:XV}(k:K Y):su T s d σ x k=(su T s d σ x k0).bind fun p=>k p.1 p.2:=by
 unfold su;grind
theorem AB6{T:J8}{t:Nat}{σ:St}{l c:XV}(k:K Y):sZ T t σ l c k=(sZ T t σ l c k0).bind fun p=>k p.1 p.2:=by
 grind[sZ]
theorem nc{T:J8}{t n:Nat}{ps:List (Nat×XV)}{σ:St}(k:K Y):Rz T t n ps σ k=(Rz T t n ps σ k0).bind fun p=>k p.1 p.2:=by
 grind[Rz,Option.bind_assoc]
theorem wq{T:J8}{ts:Array TypeId}{σ:St}{a x:XV}(k:K Y):fQ T ts σ a x k=(fQ T ts σ a x k0).bind fun p=>k p.1 p.2:=by
 unfold fQ;split
 all_goals grind
theorem yG{T:J8}{ts:Array TypeId}{σ:St}{x:XV}(k:K Y):lP T ts σ x k=(lP T ts σ x k0).bind fun p=>k p.1 p.2:=by
 unfold lP;grind
theorem ABe{c:QJ}{xs:List XV}{σ:St}(k:K Y):mO c xs σ k=(mO c xs σ k0).bind fun p=>k p.1 p.2:=by
 grind[mO,Option.bind_assoc]
theorem wU{σ:St}{x:XV}(k:K Y):bj σ x k=(bj σ x k0).bind fun p=>k p.1 p.2:=by
 unfold bj;grind
theorem AAj{T:J8}{Γ:Nat→Option QJ}{o:Oper}{σ:St}(k:K Y):YR T Γ o σ k=(YR T Γ o σ k0).bind fun p=>k p.1 p.2:=by
 unfold YR;split
 ·rfl
 ·exact wU k
 ·split
  ·rename_i x _
   cases x<;>rfl
  ·rfl
 ·grind
 ·grind
 ·grind
 ·exact nc k
 ·grind
 ·grind
 ·grind
 ·rw[pc,pc (Y:=XV×St),ATM];rfl
 ·rw[tP,tP (Y:=XV×St),ATM];rfl
 ·exact ABz k
 ·grind
 ·exact AB6 k
 ·exact zD k
 ·grind
 ·grind
 ·exact yy k
 ·exact rl k
 ·grind
 ·grind[ABe]
 ·grind
 ·grind[wq]
 ·grind[yG]
 ·split
  ·rw[aa,aa (Y:=XV×St),ATM];rfl
  ·rfl
 ·split
  ·rw[aa,aa (Y:=XV×St),ATM];rfl
  ·rfl
 ·rfl
theorem kU{I:Type}[Nonempty I]{T:J8}{Γ:Nat→Option QJ}{o:Oper}{σ:St}{k:I→K Y}{y:Y}(h:∀i,YR T Γ o σ (k i)=some y):∃x σ',YR T Γ o σ k0=some (x,σ')∧ ∀i,k i x σ' =some y:=by
 obtain⟨i0⟩:= ‹Nonempty I›;have h0:=h i0;grind[AAj,Option.bind_eq_some_iff]
end
end Go.Fw
end
section
namespace Go.Fw
def WF{α:Type}(P:Program)(s:Sem α):Prop:= ∀w v w1,s.run P w= .ok v w1→ ∀w',s.run P w' = .ok v w'
section
variable{α β:Type} {P:Program}
theorem WF.pure(x:α):WF P (Pure.pure x:Sem α):=fun w v w1 h w' =>by
 simp_all
theorem WF.bind{s:Sem α}{f:α→Sem β}(h:WF P s)(k:∀v,WF P (f v)):WF P (s >>= f):=fun w v w1 e w' =>by
 rw[Sem.run_bind]at e⊢;cases hs:s.run P w with
 |ok u w2=>
  rw[hs]at e;simp only[Result.andThen_ok]at e;rw[h w u w2 hs w'];simp only[Result.andThen_ok];exact k u w2 v w1 e w'
 |halt x w2=>
  simp_all
theorem WF.halt(x:Halt):WF P (.halt x:Sem α):=fun w v w1 e w' =>by simp_all
theorem WF.program:WF P program:=fun w v w1 e w' =>by
 simp_all
theorem WF.typeInfo(t:TypeId):WF P (typeInfo t):=WF.bind WF.program fun p=>by
 split
 ·exact WF.pure _
 ·exact WF.halt _
theorem WF.underlying(t:TypeId):WF P (underlying t):=WF.bind WF.program fun p=>by
 split
 ·exact WF.pure _
 ·exact WF.halt _
theorem WF.sizeOf(t:TypeId):WF P (Go.sizeOf t):=WF.bind (WF.typeInfo t) fun _=>WF.pure _
theorem WF.isAgg(t:TypeId):WF P (isAgg t):=WF.bind (WF.underlying t) fun d=>by
 grind[WF.pure]
theorem WF.zeroValue(t:TypeId):WF P (zeroValue t):=WF.bind (WF.typeInfo t) fun i=>by
 split
 ·exact WF.pure _
 ·exact WF.halt _
theorem WF.asIntOf(v:Value):WF P (asIntOf v):=by
 unfold Go.asIntOf;split
 ·exact WF.pure _
 ·exact WF.halt _
 ·exact WF.halt _
theorem WF.asBool(v:Value):WF P (asBool v):=by
 unfold Go.asBool;split
 ·exact WF.pure _
 ·exact WF.halt _
theorem WF.asAgg(v:Value):WF P (asAgg v):=by
 unfold Go.asAgg;split
 ·exact WF.pure _
 ·exact WF.halt _
theorem WF.sureAddr(v:Value):WF P (Instr.sureAddr v):=by
 unfold Instr.sureAddr;split
 ·exact WF.pure _
 ·exact WF.halt _
theorem WF.xC{s:Sem α}(h:∀w v w1,s.run P w≠ .ok v w1):WF P s:=fun w v w1 e=>absurd e (h w v w1)
theorem Xv{s:Sem α}{f:α→Sem β}(h:∀x w v w1,(f x).run P w≠ .ok v w1):∀w v w1,(s >>= f).run P w≠ .ok v w1:=fun w v w1 e=>by
 rw[Sem.run_bind]at e;cases hs:s.run P w with
 |ok u w2=>simp_all
 |halt x w2=>simp_all
theorem iB(x:Halt):∀w v w1,(.halt x:Sem α).run P w≠ .ok v w1:=fun w v w1 e=>by simp_all
theorem l9(e:RuntimeError):∀w v w1,(runtimePanic e:Sem α).run P w≠ .ok v w1:=by
 unfold runtimePanic;refine Xv fun p=> ?_
 dsimp only;split<;>first
  |exact iB _
  |exact Xv fun _=>Xv fun _=>iB _
  |exact Xv fun _=>iB _
theorem WF.bounds(k:IntKind)(x y:Int)(c:BoundsCode):WF P (boundsPanic k x y c:Sem α):=WF.xC (by
 grind[boundsPanic,Xv,l9])
theorem WF.part(t:TypeId)(cs:Array Value)(o:Nat):WF P (part t cs o):=WF.bind (WF.isAgg t) fun b=>by
 split
 ·grind[WF.bind,WF.sizeOf,WF.pure]
 ·split
  ·exact WF.pure _
  ·exact WF.halt _
theorem WF.field(t:TypeId)(x:Value)(f:Nat):WF P (Instr.field t x f):=WF.bind (WF.underlying t) fun d=>by
 split
 ·split
  ·grind[WF.bind,WF.asAgg,WF.part]
  ·exact WF.halt _
 ·exact WF.halt _
theorem WF.indexAt(t:TypeId)(x i:Value):WF P (Instr.indexAt t x i):=WF.bind (WF.asIntOf i) fun q=>by
 obtain⟨k,i⟩:=q;dsimp only;refine WF.bind (WF.underlying t) fun d=> ?_
 have rest:∀q:Option Addr×Nat×TypeId,WF P (do
   let d←Go.underlying t
   match q.1 with
   |some a=>
    if 0≤i∧i<(q.2.1:Int)then do
     let s←Go.sizeOf q.2.2
     Pure.pure (Value.pointer (some (a.add (i.toNat*s))))
    else if(decide (q.2.1≤1)&&(match d with| .array .. =>true|_=>false))=true then unsupported (.noEntry "op/indexAddr.an index out of range at an array of length 0 or 1 (ledger 616)")
    else boundsPanic k i q.2.1 .index
   |none=>boundsPanic k i 0 .index:Sem Value):=fun q=>by
  refine WF.bind (WF.underlying t) fun d=> ?_
  split
  ·split
   ·grind[WF.bind,WF.sizeOf,WF.pure]
   ·repeat' split
    all_goals first|exact WF.halt _|exact WF.bounds _ _ _ _
  grind[WF.bounds]
 split
 ·exact WF.bind (WF.sureAddr _) fun _=>WF.bind (WF.pure _) fun q=>rest q
 ·exact WF.bind (WF.pure _) fun q=>rest q
 ·exact WF.bind (WF.halt _) fun q=>rest q
theorem WF.index(t:TypeId)(x i:Value):WF P (Instr.index t x i):=WF.bind (WF.asIntOf i) fun q=>by
 obtain⟨k,i⟩:=q;dsimp only;refine WF.bind (WF.underlying t) fun d=> ?_
 split
 ·grind[WF.bind,WF.sizeOf,WF.part,WF.bounds]
 ·grind[WF.pure,WF.bounds]
 ·exact WF.halt _
theorem WF.extract(x:Value)(i:Nat):WF P (Instr.extract x i):=by
 unfold Instr.extract;split
 ·split
  ·exact WF.pure _
  ·exact WF.halt _
 ·exact WF.halt _
theorem WF.sliceBound(x:Value)(y:Nat)(c:BoundsCode):WF P (Instr.sliceBound x y c):=WF.bind (WF.asIntOf x) fun q=>by
 grind[WF.pure,WF.bounds]
theorem WF.sliceBounds(b:Bool)(len cap:Nat)(l h:Option Value):WF P (Instr.sliceBounds b len cap l h none):=by
 cases h with
 |none=>
  cases l with
  |none=>exact WF.bind (WF.pure _) fun _=>WF.bind (WF.pure _) fun _=>WF.bind (WF.pure _) fun _=>WF.pure _
  |some l=>exact WF.bind (WF.pure _) fun _=>WF.bind (WF.pure _) fun _=>WF.bind (WF.sliceBound _ _ _) fun _=>WF.pure _
 |some h=>
  cases l with
  |none=>exact WF.bind (WF.pure _) fun _=>WF.bind (WF.sliceBound _ _ _) fun _=>WF.bind (WF.pure _) fun _=>WF.pure _
  |some l=>exact WF.bind (WF.pure _) fun _=>WF.bind (WF.sliceBound _ _ _) fun _=>WF.bind (WF.sliceBound _ _ _) fun _=>WF.pure _
theorem WF.asAddr(v:Value):WF P (asAddr v):=by
 unfold Go.asAddr;split
 ·exact WF.pure _
 ·exact WF.xC (l9 _)
 ·exact WF.halt _
theorem WF.slice(t:TypeId)(x:Value)(l h:Option Value):WF P (Instr.slice t x l h none):=WF.bind (WF.underlying t) fun d=>by
 split
 ·grind[WF.bind,WF.sliceBounds,WF.pure]
 ·grind[WF.bind,WF.sliceBounds,WF.sizeOf,WF.pure]
 ·refine WF.bind (WF.asAddr _) fun _=>WF.bind (WF.underlying _) fun d=> ?_
  split
  ·grind[WF.bind,WF.sliceBounds,WF.sizeOf,WF.pure]
  ·exact WF.halt _
 ·exact WF.halt _
theorem WF.sliceAt(t:TypeId)(x:Value)(l h:Option Value):WF P (Instr.sliceAt t x l h none):=WF.bind (WF.underlying t) fun d=>by
 grind[WF.bind,WF.sureAddr,WF.sliceBounds,WF.sizeOf,WF.pure,WF.slice]
theorem WF.sM{f:α→Sem β}(h:∀x,WF P (f x)):∀l:List α,WF P (l.mapM f)
 |[]=>WF.pure _
 |x::l=>by
  rw[AXT];exact WF.bind (h x) fun _=>WF.bind (WF.sM h l) fun _=>WF.pure _
theorem WF.mapM{f:α→Sem β}(h:∀x,WF P (f x))(a:Array α):WF P (a.mapM f):=by
 rw[Array.mapM_eq_mapM_toList,←bind_pure_comp];grind[WF.bind,WF.sM,WF.pure]
theorem WF.build(t:TypeId)(ps:Array (Nat×Value)):WF P (Instr.build t ps):=WF.bind (WF.zeroValue t) fun z=>by
 refine WF.bind (WF.underlying t) fun d=> ?_
 split
 ·refine WF.bind (WF.mapM (fun f=>WF.bind (WF.sizeOf _) fun _=>WF.pure _) _) fun _=> ?_
  split
  ·exact WF.pure _
  ·exact WF.halt _
 ·refine WF.bind (WF.sizeOf _) fun _=> ?_
  split
  ·exact WF.pure _
  ·exact WF.halt _
 ·exact WF.halt _
end
end Go.Fw
end
section
namespace Go.Fw
def Kof(hint:ABG)(E:Env)(w:World)(bx:List Bx)(c:Nat):Prop:=E.T c∨ ∃n B,n∈hint∧bx[n]? =some B∧xQ E w n B c
def oI(K:Nat→Prop)(w w':World):Prop:= ∀c,K c→w'.heap[c]? =w.heap[c]?
theorem zy{w:World}{B:Nat→Prop}:∀{p:List Xb} {r:Ty} {h:Value} {rows:List r.D} {q:Ty} {ys:List q.D} {bb o len cap i:Nat},Rd w B (.sl r) [h] rows→DE r rows p→HE r rows p=some ⟨q,ys⟩→
  JH w h p=some (.slice (some ⟨bb,o,none⟩) len cap)→i<ys.length→RB w (.sl r) [h] rows bb
 |[],r,h,rows,q,ys,bb,o,len,cap,i,hr,hp,hg,hh,hi=>by
  rw[DA]at hh;cases hh;simp only[HE,ANB,AOQ]at hg;obtain⟨rfl,hg⟩:=hg;obtain rfl:=ASX hg;simp only[RB];grind
 |s::p,r,h,rows,q,ys,bb,o,len,cap,i,hr,hp,hg,hh,hi=>by
  simp only[DE]at hp;obtain⟨hsi,P5,hp⟩:=hp;simp only[Rd]at hr;obtain⟨a,cap',e1,_,hr⟩:=hr;obtain rfl:=(List.cons.inj e1).1;rcases hr with hr|⟨b',o',rfl,hb,hr⟩
  ·omega
  obtain⟨cs,hl,hc,hrow⟩:=hr s.i _ (RX hsi);simp only[HE]at hg;split at hg
  case h_2=>cases hg
  rename_i q' x gp;rw[gp]at hp;dsimp only at hp;obtain⟨v,hv,hrv⟩:=fB hrow gp;have hcv:=hc _ _ hv;rw[←P5]at hcv;simp only[JH,hcv]at hh;have:=zy hrv hp hg hh hi;simp only[RB];refine⟨b',o',_,cap',rfl,by omega,.inr ⟨s.i,_,cs,RX hsi,hl,hc,?_⟩⟩;clear hc hcv e1 hr;exact RB_cell hrow gp hv this
where
 RB_cell {w:World} {B:Nat→Prop} {c:Nat}:∀{r:Ty} {cs:List Value} {x:r.D} {j:Nat} {t:Ty} {y:t.D} {v:Value},Rd w B r cs x→BN r j x=some ⟨t,y⟩→cs[j]? =some v→RB w t [v] y c→RB w r cs x c
 | .cons c r,cs,x,0,t,y,v,h,e,hv,k=>by
  simp only[Rd]at h;obtain⟨u,l,rfl,h1,h2⟩:=h;simp only[BN,ANB,AOQ]at e;obtain⟨rfl,e⟩:=e;obtain rfl:=ASX e;simp at hv;subst hv;simp only[RB];grind
 | .cons c r,cs,x,j+1,t,y,v,h,e,hv,k=>by
  simp only[Rd]at h;obtain⟨u,l,rfl,h1,h2⟩:=h;simp only[BN]at e;have:=RB_cell h2 e (by simp_all) k;simp only[RB];grind
 | .int k,cs,x,0,t,y,v,h,e,hv,k' =>by
  simp only[BN,ANB,AOQ]at e;obtain⟨rfl,_⟩:=e;simp[RB]at k'
 | .bool,cs,x,0,t,y,v,h,e,hv,k' =>by
  simp only[BN,ANB,AOQ]at e;obtain⟨rfl,_⟩:=e;simp[RB]at k'
 | .str,cs,x,0,t,y,v,h,e,hv,k' =>by
  simp only[BN,ANB,AOQ]at e;obtain⟨rfl,_⟩:=e;simp[RB]at k'
 | .sl r,cs,x,0,t,y,v,h,e,hv,k=>by
  simp only[BN,ANB,AOQ]at e;obtain⟨rfl,e⟩:=e;obtain rfl:=ASX e;have hl:=ku h;simp only[Ty.n]at hl;obtain⟨u,rfl⟩:=List.length_eq_one_iff.1 hl;simp_all
 | .unit,_,_,_,_,_,_,_,e,_,_=>by simp[BN]at e
 | .int _,_,_,_+1,_,_,_,_,e,_,_=>by simp[BN]at e
 | .bool,_,_,_+1,_,_,_,_,e,_,_=>by simp[BN]at e
 | .str,_,_,_+1,_,_,_,_,e,_,_=>by simp[BN]at e
 | .sl _,_,_,_+1,_,_,_,_,e,_,_=>by simp[BN]at e
section
variable{P:Program} {T:J8} (hT:Ei P T) {E:Env} {w:World}
include hT
theorem sE{σ:St}{Fs:List ABG}(hB:N9 E w σ.bx σ.bx Fs)(st:∀c,E.S c→E.T c){t:Nat}{x:AV}{z:XV}(e:mL T t σ (.c x)=some z){v:Value}(hx:VR E w σ.bx x v):
  ∃bb oo u y,v= .pointer (some ⟨bb,oo,none⟩)∧Je σ.bx x 0=some y∧XR E w σ.bx z u∧ ∀w',w'.heap[bb]? =w.heap[bb]?→(Instr.loadAt t v).run P w' = .ok u w':=by
 unfold mL at e;split at e
 case h_2=>cases e
 rename_i x' ti hx' Vr;cases hx';split at e
 case isTrue=>cases e
 rename_i P5;have jG:=fun w=>Ei.isAgg hT Vr w
 split at e
 ·rename_i ha
  simp only[AND]at e;obtain⟨l,hl,rfl⟩:=e;obtain⟨h1,h2⟩:=cJ hl;have h0:0<l.length:=by omega
  obtain⟨b,o,u,hv,_,_⟩:=L_ hB st (h2 0 _ (AM4 h0)) hx;obtain⟨cs,c1,c2,c3⟩:=ef hB st hx hv (l:=l) (j:=0) (fun i y hy=>by simp_all);subst hv;have jX:=(hT t ti Vr).und;cases hd:ti.desc with
  |st fs=>
   rw[hd]at jX;obtain⟨fields,hu,_⟩:=jX;refine⟨b,o,.agg cs.toArray,_,rfl,by simpa using h2 0 _ (AM4 h0),⟨cs.toArray,rfl,by omega⟩,fun w' hw=>run_loadAt_mid w' b o t cs _ (by have:=c2.of_block hw;grind[BX,World.rangeAt]) hu rfl ?_⟩;grind[Ei.size]
  |_=>grind[TD.agg]
 ·rename_i ha
  simp only[AQV]at ha;simp only[AND]at e;obtain⟨y,hy,rfl⟩:=e;obtain⟨b,o,u,hv,hc,hr⟩:=L_ hB st hy hx;subst hv;refine⟨b,o,u,y,rfl,hy,hr,fun w' hw=> ?_⟩;have AL4:=jG w';rw[ha]at AL4;simp only[ATG]at hc;have dN:w'.cell? ⟨b,o,none⟩=some u:=by grind[World.cell?_of_block]
  simp[Instr.loadAt,Instr.sureAddr,loadVar,AL4,dN]
end
theorem wK{E E':Env}{w w':World}{vw vw':List Bx}{t:Ty}{x:t.D}{v:Value}(h:VR E w vw (.v t x) v):VR E' w' vw' (.v t x) v:=by
 obtain⟨h1,h2⟩:=h;refine⟨h1,?_⟩;cases t<;>simp_all[Ty.scalar,Rd]
theorem ir{E E':Env}{w w':World}{vw vw':List Bx}{t:Ty}{x:t.D}{v u:Value}(h:VR E w vw (.v t x) v)(k:VR E' w' vw' (.v t x) u):v=u:=by
 obtain⟨h1,h2⟩:=h;obtain⟨_,k2⟩:=k;cases t<;>simp_all[Ty.scalar,Rd]
def lG(x:XV):Prop:=(∃t z,x= .c (.v t z))∨(∃l,x= .agg l∧ ∀c∈l,∃t z,c= .v t z)
theorem NB{E E':Env}{w w':World}{vw vw':List Bx}{x:XV}{v:Value}(hp:lG x)(h:XR E w vw x v):XR E' w' vw' x v:=by
 rcases hp with⟨t,z,rfl⟩|⟨l,rfl,hl⟩
 ·exact wK (E:=E) (w:=w) (vw:=vw) (E':=E') (w':=w') (vw':=vw') h
 ·obtain⟨vs,rfl,Wl⟩:=h
  refine⟨vs,rfl,?_⟩
  generalize vs.toList=m at Wl
  induction l generalizing m with
  |nil=>cases m with
   |nil=>trivial
   |cons _ _=>exact Wl.elim
  |cons c l ih=>cases m with
   |nil=>exact Wl.elim
   |cons u m=>
    obtain⟨t,z,rfl⟩:=hl c (by simp);exact⟨wK Wl.1,ih (fun c hc=>hl c (by simp[hc])) m Wl.2⟩
theorem uJ{d:TD}{x z:AV}{p:Bool}(e:qD d x z=some p):(∃t y,x= .v t y)∧ ∃t y,z= .v t y:=by
 unfold qD at e;grind
theorem Zy{T:J8}:∀{i:Nat} {fs:List ACT} {l m:List AV} {r:Bool},LV T i fs l m=some r→(∀c∈l,∃t z,c= .v t z)∧ ∀c∈m,∃t z,c= .v t z
 |i,[],[],[],r,e=>by simp
 |i,(o,t)::fs,x::l,z::m,r,e=>by
  simp only[LV]at e;split at e
  case isFalse=>cases e
  split at e
  case h_2=>cases e
  split at e
  case h_2=>cases e
  rename_i p hp;simp only[AND]at e;obtain⟨r',e1,_⟩:=e;obtain⟨a1,a2⟩:=uJ hp;obtain⟨b1,b2⟩:=Zy e1;simp_all
 |_,[],[],_::_,_,e=>by simp[LV]at e
 |_,[],_::_,_,_,e=>by simp[LV]at e
 |_,_::_,[],_,_,e=>by simp[LV]at e
 |_,_::_,_::_,[],_,e=>by simp[LV]at e
theorem AJ6{op:BinOp}{κ:IntKind}{a b:Int}{r:AV}(e:gA op κ a b some=some r):∃t x,r= .v t x:=by
 cases op<;>simp only[gA,ANB]at e<;>first
  |exact⟨_,_,e.symm⟩
  |(grind)
  |cases e
theorem ACJ{op:BinOp}{κ:IntKind}{a b:Int}{r:AV}(e:Zw op κ a b some=some r):∃t x,r= .v t x:=by
 unfold Zw at e;grind
theorem AHq{op:BinOp}{a b:AB_}{r:AV}(e:iu op a b some=some r):∃t x,r= .v t x:=by
 cases op<;>simp only[iu,ANB]at e<;>first
  |exact⟨_,_,e.symm⟩
  |(
   split at e
   all_goals grind)
  |cases e
theorem ARQ{T:J8}{t:Nat}{op:BinOp}{a b:XV}{r:AV}(e:v_ T t op a b some=some r):(∃t x,r= .v t x)∧lG a∧lG b:=by
 unfold v_ at e;split at e
 ·refine⟨?_,.inl ⟨_,_,rfl⟩,.inl ⟨_,_,rfl⟩⟩
  grind[ACJ,AJ6]
 ·exact⟨AHq e,.inl ⟨_,_,rfl⟩,.inl ⟨_,_,rfl⟩⟩
 ·refine⟨?_,.inl ⟨_,_,rfl⟩,.inl ⟨_,_,rfl⟩⟩
  grind
 ·split at e
  ·rename_i hq
   rw[ANU]at hq;obtain⟨fs,_,hq⟩:=hq;obtain⟨q1,q2⟩:=Zy hq;cases e;exact⟨⟨_,_,rfl⟩,.inr ⟨_,rfl,q1⟩,.inr ⟨_,rfl,q2⟩⟩
  ·rename_i hq
   rw[ANU]at hq;obtain⟨fs,_,hq⟩:=hq;obtain⟨q1,q2⟩:=Zy hq;cases e;exact⟨⟨_,_,rfl⟩,.inr ⟨_,rfl,q1⟩,.inr ⟨_,rfl,q2⟩⟩
  simp_all
 simp_all
theorem AC5{g:Bool}{a b:XV}{r:AV}(e:uh g a b some=some r):(∃t x,r= .v t x)∧lG a∧lG b:=by
 unfold uh at e;split at e
 ·refine⟨?_,.inl ⟨_,_,rfl⟩,.inl ⟨_,_,rfl⟩⟩
  grind
 simp_all
theorem ATy{op:UnOp}{a:XV}{r:AV}(e:unX op a some=some r):(∃t x,r= .v t x)∧lG a:=by
 unfold unX at e;split at e
 ·cases e;exact⟨⟨_,_,rfl⟩,.inl ⟨_,_,rfl⟩⟩
 ·cases e;exact⟨⟨_,_,rfl⟩,.inl ⟨_,_,rfl⟩⟩
 simp_all
section
variable{Y:Type} {P:Program} {T:J8} (hT:Ei P T) {Γ:Nat→Option QJ} {o:Oper} {E:Env} {σ:St} {a:Act} {w:World} {k:K Y} {y:Y}
include hT
theorem ABo(h:Rel E σ a w){t:TypeId}(ps:Array (Nat×Operand)){s b:Nat}{fs:List ACT}{rw:Option Ty}(Vr:T.get t=some ⟨s,b,.st fs,rw⟩){r:Ty}(hr:T.i7 t=some r)
  {cs:List AV} (hb:gk T fs (ba r) (ps.toList.map fun q=>(q.1,σ.ev q.2))=some cs):
  ∃Kt,(∀w',(Instr.build t (ps.map fun(i,x)=>(i,a.eval x))).run P w' = .ok (.agg Kt) w')∧jj E w σ.bx cs Kt.toList:=by
 obtain⟨i,z,h1,h2,h3,_⟩:=row_zero hT hr;obtain⟨fields,hu,hfs,P5⟩:=AIo hT Vr;obtain⟨Kt,f1,f2⟩:=cP hT (ow h ps) (arr:=z.cells) (by grind[ZG]) hb;refine⟨Kt,fun w' => ?_,f2⟩;have hb:P.built t (ps.map fun(i,x)=>(i,a.eval x)).toList=some Kt:=by
  unfold Program.built;simp only[h1,hu,h2];have hm:fields.toList.mapM (fun f=>(P.info? f.type).map fun i=>(f.offset,i.size))=some (fields.toList.map fun f=>(f.offset,((P.info? f.type).map (·.size)).getD 0)):=by
   grind[qj]
  simp only[hm];rw[←f1];congr 1;funext n;subst hfs;simp only[List.getElem?_toArray,ASa];cases hn:fields.toList[n]? with
  |none=>simp
  |some f=>
   obtain⟨i',DL,_⟩:=P5 f (APx hn);simp[DL]
 grind[run_build]
theorem xo{hint:ABG}(h:Rel E σ a w)(hq:jI hint σ o.op=true)(e:YR T Γ o σ k=some y):
  ∃v x,XR E w σ.bx x v∧k x σ=some y∧ ∀w',oI (Kof hint E w σ.bx) w w'→(execOp a.eval o).run P w' = .ok (.value v) w':=by
 obtain⟨Fs,hB,hS⟩:=h.bx;have st:=hS.st;have wf:∀{s:Sem Value} {v:Value},WF P s→s.run P w= .ok v w→ ∀w',s.run P w' = .ok v w':=fun h1 h2 w' =>h1 w _ w h2 w'
 unfold YR at e;split at e
 ·rename_i x ho
  exact⟨a.eval x,_,h.ev x,e,fun w' _=>by grind[execOp,Sem.run_pure]⟩
 ·rename_i x ho
  unfold bj at e;split at e
  ·grind[jI]
  ·exact⟨a.eval x,_,h.ev x,e,fun w' _=>by grind[execOp,Sem.run_pure]⟩
 ·rename_i c xa xb ho
  split at e
  case h_2=>cases e
  rename_i p hp;have hc:=h.ev c;rw[hp]at hc;have dN:=SK (E:=E) (w:=w) (vw:=σ.bx) hc;refine⟨if p then a.eval xa else a.eval xb,if p then σ.ev xa else σ.ev xb,by cases p<;>simp[h.ev],by grind[ADt],fun w' _=>by simp[execOp,ho,dN,asBool]⟩
 ·rename_i t ho;rw[ho]at hq;cases hq
 ·rename_i t x ho;rw[ho]at hq;cases hq
 ·rename_i t ps ho
  split at e
  case h_2=>cases e
  rename_i s b fs rw r Vr hr;split at e
  case h_2=>cases e
  rename_i cs v7;obtain⟨Kt,h1,h2⟩:=ABo hT h ps Vr hr v7;exact⟨.agg Kt,.agg cs,⟨Kt,rfl,h2⟩,e,fun w' _=>by grind[execOp,Sem.run_bind,Result.andThen_ok,Sem.run_pure]⟩
 ·rename_i t n ps ho;rw[ho]at hq;cases hq
 ·rename_i t x ho
  rw[ho]at hq;split at e
  case h_2=>cases e
  rename_i z hz;have hv:=h.ev x;simp only[jI]at hq
  generalize hX:σ.ev x=X at hq hv hz
  cases X with
  |agg l=>cases hq
  |M3 l=>cases hq
  |c ad=>
   obtain⟨bb,oo,u,cell,hp,hc,h2,h3⟩:=sE hT hB st hz hv;refine⟨u,z,h2,e,fun w' rp=> ?_⟩;have hbb:w'.heap[bb]? =w.heap[bb]?:=by
    refine rp bb ?_
    have ZL:VR E w σ.bx ad (a.eval x):=hv;cases ad with
    |Ik b j=>
     simp only[gT,AS_]at hq;simp only[Je]at hc;split at hc
     ·rename_i cs hb
      refine .inr ⟨b,_,hq,hb,?_⟩;have:=ZL.2;rw[hp]at this;simp only[Value.pointer.injEq,ANB,Addr.mk.injEq]at this;exact this.1
     simp_all
    |Jn b p i sz j=>
     simp only[gT,AS_]at hq;simp only[Je]at hc;split at hc
     ·rename_i d q rows hb
      refine .inr ⟨b,_,hq,hb,?_⟩;simp only[VR,hb]at ZL;obtain⟨_,hpp,q1,ys,b2,o2,len,cap,g1,g2,g3,g4⟩:=ZL;rw[hp]at g4;simp only[Value.pointer.injEq,ANB,Addr.mk.injEq]at g4;obtain⟨rfl,_⟩:=g4;obtain⟨F,⟨_,ho2⟩,_⟩:=hB.get hb;exact zy (X_ ho2) hpp g1 g3 g2
     simp_all
    |P4 s r z j=>
     obtain⟨b2,o2,cs,g1,g2,_⟩:=ZL;rw[hp]at g1;simp only[Value.pointer.injEq,ANB,Addr.mk.injEq]at g1;obtain⟨rfl,_⟩:=g1
     left
     grind
    |_=>cases hq
   grind[execOp,Sem.run_bind,Result.andThen_ok,Sem.run_pure]
 ·rename_i t xa xx ho;rw[ho]at hq;cases hq
 ·rename_i x ho
  have hx:=h.ev x;split at e
  ·rename_i b j hp
   rw[hp]at hx;have hx':b<σ.bx.length∧a.eval x= .pointer (some ⟨E.IE b,j,none⟩):=hx;grind[execOp,Sem.run_pure]
  ·rename_i b p i sz j hp
   rw[hp]at hx;have hpt:cy (a.eval x)=true:=hx.1;grind[cy,execOp,Sem.run_pure]
  ·rename_i s r z j hp
   rw[hp]at hx;obtain⟨bb,oo,cs,hv,hrest⟩:=hx;exact⟨a.eval x,.c (.P4 s r z j),⟨bb,oo,cs,hv,hrest⟩,e,fun w' _=>by grind[execOp,Sem.run_pure]⟩
  ·rename_i f Ky hp
   rw[hp]at hx;have hx':(∀b∈Ky,b<σ.bx.length)∧a.eval x= .func (.func f) #[] (Ky.map fun b=>Value.pointer (some ⟨E.IE b,0,none⟩)).toArray:=hx;grind[execOp,Sem.run_pure]
  simp_all
 ·rename_i op t x z s ho
  rw[pc,ANU]at e;obtain⟨r,e1,e⟩:=e;obtain⟨⟨t',x',rfl⟩,p1,p2⟩:=ARQ e1;obtain⟨r0,val,h1,h2,h3⟩:=iT hT e1 (h.ev x) (h.ev z) x z;cases h1;refine⟨val,.c (.v t' x'),h3,e,fun w' _=> ?_⟩;obtain⟨r1,val',g1,g2,g3⟩:=iT hT e1 (NB (E':=E) (w':=w') (vw':=σ.bx) p1 (h.ev x)) (NB p2 (h.ev z)) x z;cases g1;have:=ir h3 g3;subst this;simp only[execOp,ho,Sem.run_bind];simp_all
 ·rename_i op t x ho
  rw[tP,ANU]at e;obtain⟨r,e1,e⟩:=e;obtain⟨⟨t',x',rfl⟩,p1⟩:=ATy e1;obtain⟨r0,val,h1,h2,h3⟩:=kj (P:=P) e1 (h.ev x);cases h1;refine⟨val,.c (.v t' x'),h3,e,fun w' _=> ?_⟩;obtain⟨r1,val',g1,g2,g3⟩:=kj (P:=P) e1 (NB (E':=E) (w':=w') (vw':=σ.bx) p1 (h.ev x));grind[ir,execOp,Sem.run_bind,Result.andThen_ok,Sem.run_pure]
 ·rename_i s d x ho;rw[ho]at hq;cases hq
 ·rename_i f first Ky ho;rw[ho]at hq;cases hq
 ·rename_i t l c ho;rw[ho]at hq;cases hq
 ·rename_i t x lo hi ho
  obtain⟨z,val,h1,h2,h3⟩:=kD hT hB st e (h.ev x) (zJ h lo) (zJ h hi);exact⟨val,z,h3,h1,fun w' _=>by simp only[execOp,ho,Option.map_none,Sem.run_bind,wf (WF.sliceAt _ _ _ _) h2 w',Result.andThen_ok,Sem.run_pure]⟩
 ·rename_i t x f ho
  split at e
  case h_2=>cases e
  rename_i z hz;obtain⟨u,h1,h2⟩:=j7 hT hz (h.ev x);refine⟨u,z,h2,e,fun w' _=> ?_⟩;have hw:(Instr.fieldAt t (a.eval x) f).run P w' = .ok u w':=by
   have hx:=h.ev x;unfold uo at hz;split at hz
   case h_2=>cases hz
   rename_i s b fs _ Vr;split at hz
   case h_2=>cases hz
   rename_i o' u' hf;have key:∀ad,a.eval x= .pointer (some ad)→(Instr.fieldAt t (a.eval x) f).run P w' = .ok u w':=by
    intro ad had;rw[had]at h1⊢;have r1:=VQ hT (w:=w) Vr hf (a:=ad);grind[VQ]
   split at hz
   ·rename_i b' j hp
    rw[hp]at hx;exact key _ hx.2
   ·rename_i b' p i sz j hp
    rw[hp]at hx;have hpt:cy (a.eval x)=true:=hx.1;unfold cy at hpt;grind
   ·rename_i s r y' j hp
    rw[hp]at hx;obtain⟨bb,oo,cs,hv,_⟩:=hx;simp_all
   simp_all
  grind[execOp,Sem.run_bind,Result.andThen_ok,Sem.run_pure]
 ·rename_i t x f ho
  split at e
  case h_2=>cases e
  rename_i z hz;obtain⟨u,h1,h2⟩:=mW hT hz (h.ev x);exact⟨u,z,h2,e,fun w' _=>by simp only[execOp,ho,Sem.run_bind,wf (WF.field _ _ _) h1 w',Result.andThen_ok,Sem.run_pure]⟩
 ·rename_i t x i ho
  obtain⟨z,val,h1,h2,h3⟩:=jU hT hB st e (h.ev x) (h.ev i);exact⟨val,z,h3,h1,fun w' _=>by simp only[execOp,ho,Sem.run_bind,wf (WF.indexAt _ _ _) h2 w',Result.andThen_ok,Sem.run_pure]⟩
 ·rename_i t x i ho
  obtain⟨z,val,h1,h2,h3⟩:=dH hT e (h.ev x) (h.ev i);exact⟨val,z,h3,h1,fun w' _=>by simp only[execOp,ho,Sem.run_bind,wf (WF.index _ _ _) h2 w',Result.andThen_ok,Sem.run_pure]⟩
 ·rename_i x i ho
  split at e
  case h_2=>cases e
  rename_i z hz;obtain⟨u,h1,h2⟩:=da (P:=P) hz (h.ev x);exact⟨u,z,h2,e,fun w' _=>by simp only[execOp,ho,Sem.run_bind,wf (WF.extract _ _) h1 w',Result.andThen_ok,Sem.run_pure]⟩
 ·rename_i f args rX ho;rw[ho]at hq;cases hq
 ·rename_i args rX ho
  split at e
  ·rename_i s t Is hts
   obtain⟨x,rfl,hx⟩:=YH Is;have hv:=h.ev x;rw[hx]at hv;have ZL:=YA (E:=E) (w:=w) (vw:=σ.bx) hv;split at e
   case isFalse=>cases e
   rename_i hs;have hu:=Xu hT hs;refine⟨.int .i64 (s.length:Int),.c (.v (.int .i64) (s.length:Int)),VR.int (E:=E) (vw:=σ.bx) _ _,e,fun w' _=> ?_⟩;have P5:(⟨s.toArray⟩:ByteArray).size=s.length:=by rfl
   simp[execOp,ho,resolve,invoke,builtin,Builtin.len_,hts,ZL,BV hu,goInt,P5]
  ·rename_i z t _ Is hts
   obtain⟨x,rfl,hx⟩:=YH Is;have hv:=h.ev x;rw[hx]at hv;split at e
   case isFalse=>cases e
   rename_i hs;split at e
   case h_2=>cases e
   rename_i n hn;obtain⟨el,hu⟩:=kI hT hs;obtain⟨ad,cap,ZL⟩:=mH hB st hn hv;refine⟨.int .i64 (n:Int),.c (.v (.int .i64) (n:Int)),VR.int (E:=E) (vw:=σ.bx) _ _,e,fun w' _=> ?_⟩;simp[execOp,ho,resolve,invoke,builtin,Builtin.len_,hts,ZL,BV hu,goInt]
  simp_all
 ·rename_i args rX ho;rw[ho]at hq;cases hq
 ·rename_i args rX ho;rw[ho]at hq;cases hq
 ·rename_i args rX ho
  split at e
  case h_2=>cases e
  rename_i x1 x2 Is;obtain⟨o1,o2,rfl,hx1,hx2⟩:=YS Is;have cm:=h.ev o1;have bB:=h.ev o2;rw[hx1]at cm;rw[hx2]at bB;rw[aa,ANU]at e;obtain⟨r,e1,e⟩:=e;obtain⟨⟨t',x',rfl⟩,p1,p2⟩:=AC5 e1;obtain⟨r0,val,h1,h2,h3⟩:=Ue (P:=P) (big:=true) e1 cm bB rX #[] o.type;cases h1;refine⟨val,.c (.v t' x'),h3,e,fun w' _=> ?_⟩;obtain⟨r1,val',g1,g2,g3⟩:=Ue (P:=P) (big:=true) e1 (NB (E':=E) (w':=w') (vw':=σ.bx) p1 cm) (NB p2 bB) rX #[] o.type;cases g1;have:=ir h3 g3;subst this;simp only[ASi]at g2;simp[execOp,ho,resolve,invoke,builtin,g2]
 ·rename_i args rX ho
  split at e
  case h_2=>cases e
  rename_i x1 x2 Is;obtain⟨o1,o2,rfl,hx1,hx2⟩:=YS Is;have cm:=h.ev o1;have bB:=h.ev o2;rw[hx1]at cm;rw[hx2]at bB;rw[aa,ANU]at e;obtain⟨r,e1,e⟩:=e;obtain⟨⟨t',x',rfl⟩,p1,p2⟩:=AC5 e1;obtain⟨r0,val,h1,h2,h3⟩:=Ue (P:=P) (big:=false) e1 cm bB rX #[] o.type;cases h1;refine⟨val,.c (.v t' x'),h3,e,fun w' _=> ?_⟩;obtain⟨r1,val',g1,g2,g3⟩:=Ue (P:=P) (big:=false) e1 (NB (E':=E) (w':=w') (vw':=σ.bx) p1 cm) (NB p2 bB) rX #[] o.type;cases g1;have:=ir h3 g3;subst this;simp only[ANw,AQS]at g2;simp[execOp,ho,resolve,invoke,builtin,g2]
 simp_all
end
end Go.Fw
end
section
namespace Go.Fw
section
variable{P:Program} {md:Region.Mode} {ops:Array Oper} {Q:Exit→Act→World→Prop}
theorem oI.refl(K:Nat→Prop)(w:World):oI K w w:=fun _ _=>rfl
def vP(P:Program)(md:Region.Mode)(ops:Array Oper)(Q:Exit→Act→World→Prop):Nat→Array Bool→(Nat→Prop)→Act→World→Prop
 |0,listed,_,a,w=>Region.ready md ops listed=[]∧Q .normal a w
 |fuel+1,listed,K,a,w=>(Region.ready md ops listed=[]→Q .normal a w)∧
  ∀i∈Region.ready md ops listed,wpOp P ops Q i (fun a' w' => ∃K':Nat→Prop,(∀c,K c→K' c)∧oI K w w'∧vP P md ops Q fuel (listed.setIfInBounds i true) K' a' w') a w
theorem sP:∀(fuel:Nat) (listed:Array Bool) (K:Nat→Prop) (a:Act) (w:World),vP P md ops Q fuel listed K a w→wpAny P md ops Q fuel listed a w
 |0,_,_,_,_,h=>h
 |fuel+1,_,_,_,_,h=>⟨h.1,fun i hi=>wpOp_mono (fun a' w' ⟨K',_,_,h'⟩=>sP fuel _ K' a' w' h') (h.2 i hi)⟩
theorem YieldsIf.mono{S S':World→Prop}{o:Oper}{v:Value}{a:Act}(h:YieldsIf P ops S o v a)(hs:∀w,S' w→S w):YieldsIf P ops S' o v a:=
 h.imp (fun⟨h1,h2⟩=>⟨h1,fun w hw=>h2 w (hs w hw)⟩) id
theorem mD{i:Nat}{oi:Oper}{v:Value}(hi:ops[i]? =some oi)(AFA:∀(j:Nat) (o:Oper) cs b,ops[j]? =some o→o.op≠ .select cs b)(hQ:∀c a w,¬Q (.panic c) a w):
  ∀(fuel:Nat) (listed:Array Bool) (K:Nat→Prop) (a:Act) (w:World),
   (∀j oj,ops[j]? =some oj→j≠i→listed.getD j true=false→(∀e∈oj.after,Region.binds md e=true→e.on≠i)→oi.apart ops oj=true)→
   i∈Region.ready md ops listed→YieldsIf P ops (oI K w) oi v a→vP P md ops Q fuel (listed.setIfInBounds i true) K (a.put oi.dst v) w→vP P md ops Q (fuel+1) listed K a w:=by
 intro fuel
 induction fuel with
 |zero=>
  intro listed K a w _ hr hy H;refine⟨fun h=>(by simp_all),fun j hj=> ?_⟩;by_cases hji:j=i
  ·subst hji;exact hy.wpOp hi (oI.refl K w) ⟨K,fun _ h=>h,oI.refl K w,H⟩
  ·have:=ready_mono hj hji
   rw[H.1]at this;cases this
 |succ fuel ih=>
  intro listed K a w c_ hr hy H;refine⟨fun h=>(by simp_all),fun j hj=> ?_⟩;by_cases hji:j=i
  ·subst hji;exact hy.wpOp hi (oI.refl K w) ⟨K,fun _ h=>h,oI.refl K w,H⟩
  ·have h1:=H.2 j (ready_mono hj hji)
   obtain⟨hjun,oj,hoj,ga⟩:=mem_ready.1 hj;have AWj:∀e∈oj.after,Region.binds md e=true→e.on≠i:=fun e he hb heq=>by
    grind[mem_ready,Nat.lt_or_ge,Array.getElem?_eq_none]
   have h2:=wpOp_putIf hoj (c_ j oj hoj hji hjun AWj) (fun cs b=>AFA i oi cs b hi) (fun cs b=>AFA j oj cs b hoj) (fun c a w h=>absurd h (hQ c _ w)) hy h1;have AQq:∀k ok,ops[k]? =some ok→k≠i→(listed.setIfInBounds j true).getD k true=false→
     (∀e∈ok.after,Region.binds md e=true→e.on≠i)→oi.apart ops ok=true:=fun k ok hk hki hun hno=>by
    refine c_ k ok hk hki ?_ hno
    by_cases hjk:j=k
    all_goals simp_all
   refine wpOp_mono (fun a' w' h3=> ?_) h2;obtain⟨zk,K',hK,hs,ht⟩:=h3;refine⟨K',hK,hs,ih (listed.setIfInBounds j true) K' a' w' AQq (ready_mono hr (Ne.symm hji)) (YieldsIf.mono zk fun w'' AX6 c hc=>(AX6 c (hK c hc)).trans (hs c hc)) ?_⟩;grind[Array.setIfInBounds_comm]
end
theorem l4{Y:Type}{f:Nat→List Bool→Option Y}{y:Y}:∀{rs:ABG},(∀ω,tZ f rs ω=some y)→ ∀i∈rs,∀ω,f i ω=some y
 |[i],h,j,hj,ω=>by
  simp at hj;subst hj;exact h ω
 |i::j::r,h,k,hk,ω=>by
  rcases ARi.1 hk with rfl|hk
  ·exact h (true::ω)
  ·exact l4 (rs:=j::r) (fun ω=>h (false::ω)) k hk ω
theorem wt{σ:St}{t:Nat}{b:Bool}(e:σ.tm[t]? =some (.c (.v .bool b))):σ.put (some t) (.c (.v .bool b))=σ:=by
 simp only[St.put];obtain⟨tm,bx⟩:=σ;simp only[St.mk.injEq,ASq];obtain⟨G4,he⟩:=ANF.1 e;apply AUY;grind
theorem sk{Y I:Type}[Nonempty I]{C:Z1}{ops:Array Oper}{o:Oper}{kn:I→St→Option Y}{σ:St}{y:Y}{E:Env}{a:Act}{w:World}(h:Rel E σ a w)
  (e:∀ω,zY C ops o (kn ω) σ=some y):
  (Region.wanted o (yielded ops a.tmps)=true∧ ∀ω,(YR C.T C.Γ o σ fun x σ' =>kn ω (σ'.put o.dst x))=some y)∨
  (Region.wanted o (yielded ops a.tmps)=false∧ ∀ω,kn ω (σ.put o.dst (.M3 []))=some y):=by
 unfold zY at e;cases hg:o.guard with
 |none=>
  simp only[hg]at e;grind[Region.wanted]
 |some q=>
  obtain⟨j,want⟩:=q;simp only[hg]at e;cases ht:(ops[j]?).bind (·.dst)with
  |none=>
   simp_all
  |some t=>
   simp only[ht]at e;obtain⟨i0⟩:= ‹Nonempty I›;have e0:=e i0;split at e0
   ·rename_i b hb
    simp only[hb]at e;obtain⟨v,hv,hx⟩:=h.tmp hb;have hvb:=SK (E:=E) (w:=w) (vw:=σ.bx) hx;subst hvb;have hy:yielded ops a.tmps j=some b:=by rw[br ht hv];rfl
    have hk:=wt hb;cases b with
    |true=>
     simp only[AOA,tt,hk]at e;cases want with
     |true=>grind[Region.wanted]
     |false=>grind[Region.wanted]
    |false=>
     simp only[ANP,ff,hk]at e;cases want with
     |true=>grind[Region.wanted]
     |false=>grind[Region.wanted]
   ·rename_i hb
    simp only[hb]at e;obtain⟨v,hv,vs,rfl,hx⟩:=h.tmp hb;grind[yielded,br,Region.wanted]
   simp_all
theorem AFQ{ops:Array Oper}{o:Oper}{σ:St}{E:Env}{a:Act}{w:World}(h:Rel E σ a w)(e:idle ops σ o=true):Region.wanted o (yielded ops a.tmps)=false:=by
 unfold idle at e;cases hg:o.guard with
 |none=>simp_all
 |some q=>
  obtain⟨j,want⟩:=q;simp only[hg]at e;cases ht:(ops[j]?).bind (·.dst)with
  |none=>simp_all
  |some t=>
   simp only[ht]at e;split at e
   ·rename_i b hb
    obtain⟨v,hv,hx⟩:=h.tmp hb;have hvb:=SK (E:=E) (w:=w) (vw:=σ.bx) hx;grind[yielded,br,Region.wanted]
   ·rename_i hb
    obtain⟨v,hv,vs,rfl,hx⟩:=h.tmp hb;grind[yielded,br,Region.wanted]
   simp_all
theorem sy{Y I:Type}[Nonempty I]{C:Z1}{ops:Array Oper}{i:Nat}{o:Oper}(ho:ops[i]? =some o){kn:I→St→Option Y}{σ:St}{y:Y}{E:Env}{a:Act}{w:World}(h:Rel E σ a w)
  (e:∀ω,zx C ops i (kn ω) σ=some y):
  (Region.wanted o (yielded ops a.tmps)=true∧ ∀ω,(YR C.T C.Γ o σ fun x σ' =>kn ω (σ'.put o.dst x))=some y)∨
  (Region.wanted o (yielded ops a.tmps)=false∧ ∀ω,kn ω (σ.put o.dst (.M3 []))=some y):=
 sk h fun ω=>by
  grind[zx]
theorem AFc{hint t:ABG}{E E':Env}{bx RI:List Bx}{w w':World}(h:SD t E bx w E' RI w')(ht:∀b∈t,b∉hint)(ha:∀b∈hint,kJ RI b=false):
  (∀c,Kof hint E w bx c→Kof hint E' w' RI c)∧oI (Kof hint E w bx) w w':=by
 have key:∀n B,n∈hint→bx[n]? =some B→ ∃B',RI[n]? =some B'∧Vy B B'∧ ∀c,xQ E w n B c→w'.heap[c]? =w.heap[c]?:=by
  intro n B hn hB;have hd:=ha n hn;unfold kJ at hd;split at hd
  ·cases hd
  ·rename_i B' ea UA
   obtain⟨h1,h2⟩:=h.frame n B B' (fun hm=>ht n hm hn) hB UA ea;simp_all
  simp_all
 refine⟨fun c hc=> ?_,fun c hc=> ?_⟩
 ·rcases hc with hc|⟨n,B,hn,hB,hc⟩
  ·exact .inl (h.base.T c hc)
  ·obtain⟨B',UA,hs,hh⟩:=key n B hn hB
   have hid:=h.ids n (ANF.1 hB).1;refine .inr ⟨n,B',hn,UA,?_⟩;cases B with
   |mem cs=>
    cases B' with
    |mem eD=>grind[xQ]
    |sl _ _ _=>exact hs.elim
    |dead=>exact hs.elim
   |sl d r rows=>
    cases B' with
    |mem eD=>exact hs.elim
    |dead=>exact hs.elim
    |sl d' r' C0=>
     simp only[Vy,AOQ]at hs;obtain⟨rfl,hs⟩:=hs;obtain rfl:=ASX hs;grind[xQ,oD]
   |dead=>exact hc.elim
 ·rcases hc with hc|⟨n,B,hn,hB,hc⟩
  ·exact h.base.heap c hc
  grind
theorem Z7{Y:Type}{C:Z1}{hint:ABG}{ops:Array Oper}{kn:List Bool→St→Option Y}{fuel:Nat}{listed:Array Bool}{ω:List Bool}{σ:St}{y:Y}(e:Ux C hint ops kn fuel listed ω σ=some y):∀b∈hint,kJ σ.bx b=false:=by
 grind[Ux,List.all_eq_true]
theorem uT{Y:Type}{P:Program}{C:Z1}(hT:Ei P C.T)(hΓ:gj P C.Γ){E0:Env}{w0:World}{N nb:Nat}{hint:ABG}{ops:Array Oper}{kn:List Bool→St→Option Y}{y:Y}{Q:Exit→Act→World→Prop}
  (AFA:Region.noSelect ops=true) (hP:∀c a w,¬Q (.panic c) a w) (hk:∀E σ a w,Ok E0 w0 N nb E σ a w→(∀ω,kn ω σ=some y)→Q .normal a w):
  ∀(fuel:Nat) {listed:Array Bool} {E:Env} {σ:St} {a:Act} {w:World},Ok E0 w0 N nb E σ a w→(∀ω,Ux C hint ops kn fuel listed ω σ=some y)→vP P .any ops Q fuel listed (Kof hint E w σ.bx) a w:=by
 intro fuel
 induction fuel with
 |zero=>
  intro listed E σ a w h e;have e1:=fun ω=>e ω
  unfold Ux at e1;have hal:=Z7 (e []);have AP8:(hint.all fun b=> !kJ σ.bx b)=true:=ASw.2 fun b hb=>by simp_all
  simp only[AP8,ASi]at e1;cases hr:Region.ready .any ops listed with
  |nil=>
   simp only[hr]at e1;exact⟨hr,hk E σ a w h e1⟩
  |cons i rs=>
   simp_all
 |succ fuel ih=>
  intro listed E σ a w h e;have e1:=fun ω=>e ω
  unfold Ux at e1;have hal:=Z7 (e []);have AP8:(hint.all fun b=> !kJ σ.bx b)=true:=ASw.2 fun b hb=>by simp_all
  simp only[AP8,ASi]at e1;cases hr:Region.ready .any ops listed with
  |nil=>
   simp only[hr]at e1;exact⟨fun _=>hk E σ a w h e1,by simp_all⟩
  |cons i0 rs=>
   simp only[hr]at e1;cases hf:(i0::rs).find? (qf hint ops listed σ)with
   |some i=>
    simp only[hf]at e1;have hi:=AV9 hf;have ht:=List.find?_some hf
    unfold qf at ht;cases ho:ops[i]? with
    |none=>simp_all
    |some o=>
     simp only[ho,ANN]at ht;have c_:=Region.free_spec ho ht.2;rw[←hr]at hi;have hy:=sy (I:=List Bool) (kn:=fun ω σ' =>Ux C hint ops kn fuel (listed.setIfInBounds i true) ω σ') ho h.rel e1;rcases hy with⟨hw,hx⟩|⟨hw,hx⟩
     ·have hq:jI hint σ o.op=true:=by
       rcases ASr _ _▸ht.1 with hq|hi
       ·omega
       ·rw[AFQ h.rel hi]at hw
        cases hw
      obtain⟨x,σ',hx0,hx1⟩:=kU hx;obtain⟨v,x',q1,q2,q3⟩:=xo hT h.rel hq hx0;simp only[k0,ANB,ASM]at q2;obtain⟨rfl,rfl⟩:=q2;have j0:=ih (h.put o.dst q1) hx1;have vF:(σ.put o.dst x').bx=σ.bx:=by cases o.dst<;>rfl
      rw[vF]at j0;exact mD ho (Region.noSelect_spec AFA) hP fuel listed _ a w c_ hi (.inl ⟨hw,q3⟩) j0
     ·have j0:=ih (h.put o.dst oy) hx
      have vF:(σ.put o.dst (.M3 [])).bx=σ.bx:=by cases o.dst<;>rfl
      rw[vF]at j0;exact mD ho (Region.noSelect_spec AFA) hP fuel listed _ a w c_ hi (.inr ⟨hw,rfl⟩) j0
   |none=>
    simp only[hf]at e1;have ga:=l4 e1;refine⟨fun h0=>(by simp_all),fun i hi=> ?_⟩;rw[hr]at hi;have hx:=ga i hi;cases ho:ops[i]? with
    |none=>
     simp_all
    |some o=>
     simp only[ho]at hx;have htc:(Kl C.Γ σ o.op).all (fun b=> !hint.contains b)=true:=by
      have:=hx [];simp_all
     simp only[htc,ASi]at hx;have htn:∀b∈Kl C.Γ σ o.op,b∉hint:=fun b hb hh=>by
      simp_all
     unfold wpOp;simp only[ho];rcases sy (I:=List Bool) (kn:=fun ω σ' =>Ux C hint ops kn fuel (listed.setIfInBounds i true) ω σ') ho h.rel hx with⟨hw,hx⟩|⟨hw,hx⟩
     ·rw[AM1 hw]
      obtain⟨x,σ',hx0,hx1⟩:=kU hx;refine .inl (AAQ hT hΓ h.rel hx0 fun v w' E' x' σ'' g1 g2 g3 g4 g5=> ?_);simp only[k0,ANB,ASM]at g5;obtain⟨rfl,rfl⟩:=g5;have vF:(σ''.put o.dst x').bx=σ''.bx:=by cases o.dst<;>rfl
      have AWl:=Z7 (hx1 []);rw[vF]at AWl;obtain⟨k1,k2⟩:=AFc g3 htn AWl;have j0:=ih ((h.next g1 g3 g4).put o.dst g2) hx1;grind
     ·rw[AM2 (by simp[hw])]
      have j0:=ih (h.put o.dst oy) hx;have vF:(σ.put o.dst (.M3 [])).bx=σ.bx:=by cases o.dst<;>rfl
      grind[oI.refl]
end Go.Fw
end
section
namespace Go.Fw
theorem Rel.heap{E:Env}{σ:St}{a:Act}{w w':World}(h:Rel E σ a w)(hw:w'.heap=w.heap):Rel E σ a w':=by
 have keep:Tg E w σ.bx E w' σ.bx:=by
  refine⟨AQQ _,fun _ _=>rfl,fun _ h=>h,fun _ h=>h,h.bx.st,fun _ _=>by rw[hw],fun b d r rows hb e=>⟨d,rows,e,fun p hp q ys hg=>⟨hp,⟨ys,hg,rfl⟩,fun hh he=> ?_⟩⟩⟩;obtain⟨Fs,⟨f1,f2⟩,_⟩:=h.bx;have hF:Fs[b]? =some (Fs[b]'(by omega)):=AM4 _;exact tq (f2 b _ _ e hF).2 (fun _ _=>by rw[hw]) (fun _ _=>by rw[hw]) hp hg he
 exact⟨h.OO,h.tm.imp fun _ _ hx=>PX keep hx,h.bx.turn (fun _ _ hv=>GS keep hv) (fun _ h=>h) (fun _ _=>rfl) (fun _ _=>rfl) (fun _ _ _=>by rw[hw]) fun F hF=>⟨hF.nodup,hF.free,fun c hc=>by rw[hw];exact hF.lt c hc,hF.st,fun c hc=>by rw[hw];exact hF.dV c hc⟩⟩
theorem Ok.drawn{E0 E:Env}{w0 w:World}{N nb:Nat}{σ:St}{a:Act}(h:Ok E0 w0 N nb E σ a w)(n:Nat):Ok E0 w0 N nb E σ a { w with drawn:=n }:=
 ⟨h.rel.heap rfl,⟨h.base.T,h.base.S,h.base.Tof,h.base.zt,h.base.heap,h.base.os,h.base.tape,h.base.output,h.base.size⟩,h.tm,h.q9,h.ids⟩
theorem ld{Y I:Type}[Nonempty I]{P:Program}{C:Z1}(hT:Ei P C.T)(hΓ:gj P C.Γ){E0:Env}{w0:World}{N nb:Nat}{all:Array Oper}{kn:I→St→Option Y}{y:Y}{Q:Exit→Act→World→Prop}
  (hk:∀E σ a w,Ok E0 w0 N nb E σ a w→(∀ω,kn ω σ=some y)→Q .normal a w):∀{l:List Oper} {E:Env} {σ:St} {a:Act} {w:World},Ok E0 w0 N nb E σ a w→(∀ω,tQ C all l (kn ω) σ=some y)→wpList P all Q l a w
 |[],E,σ,a,w,h,e=>hk E σ a w h e
 |o::rest,E,σ,a,w,h,e=>by
  unfold wpList;rcases sk (kn:=fun ω σ=>tQ C all rest (kn ω) σ) h.rel e with⟨hw,hx⟩|⟨hw,hx⟩
  ·rw[AM1 hw]
   obtain⟨x,σ',hx0,hx1⟩:=kU hx;refine .inl (AAQ hT hΓ h.rel hx0 fun v w' E' x' σ'' g1 g2 g3 g4 g5=> ?_);simp only[k0,ANB,ASM]at g5;obtain⟨rfl,rfl⟩:=g5;exact ld hT hΓ hk ((h.next g1 g3 g4).put o.dst g2) hx1
  ·rw[AM2 (by simp[hw])]
   exact ld hT hΓ hk (h.put o.dst oy) hx
def O0(P:Program)(body:Code)(Q:Exit→Act→World→Prop)(a:Act)(w:World):Prop:=
 ∀(b:Frame) (k:List Item) (cs:List Frame),∃e a' w',Q e a' w'∧Arrives P (lone (b.at a (.code body:: .inLoop body::k)) cs w) b k cs e a' w'
theorem O0.wp{P:Program}{body:Code}{Q:Exit→Act→World→Prop}{a:Act}{w:World}(h:O0 P body Q a w):(Code.loop body).wp P Q a w:=fun b k cs=>by
 obtain⟨e,a',w',hq,dM⟩:=h b k cs;exact⟨e,a',w',hq,.of_steps (.one step_loop) dM⟩
theorem O0.AIb{P:Program}{body:Code}{Q:Exit→Act→World→Prop}{a:Act}{w:World}(h:body.wp P (Exit.then (O0 P body Q) Q) a w):O0 P body Q a w:=fun b k cs=>by
 obtain⟨e,a₁,w₁,hq,dM⟩:=h b (.inLoop body::k) cs;cases e with
 |normal=>
  obtain⟨e₂,a₂,w₂,hq₂,harr₂⟩:=hq b k cs;exact⟨e₂,a₂,w₂,hq₂,.of_steps (Steps.trans dM (.one step_inLoop)) harr₂⟩
 |exit id=>exact⟨_,a₁,w₁,hq,.pass (x:= .inLoop body) rfl (fun _ _=> .inl (by simp)) dM⟩
 |goto l=>exact⟨_,a₁,w₁,hq,.pass (x:= .inLoop body) rfl (fun _ _=> .inl (by simp)) dM⟩
 |ret=>exact⟨_,a₁,w₁,hq,.pass (x:= .inLoop body) rfl (fun _ _=> .inl (by simp)) dM⟩
 |panic ch=>exact⟨_,a₁,w₁,hq,.pass (x:= .inLoop body) rfl (fun _ _=> .inl (by simp)) dM⟩
 |outgrown=>exact⟨_,a₁,w₁,hq,.pass (x:= .inLoop body) rfl (fun _ _=> .inl (by simp)) dM⟩
abbrev kf:=Exit→Act→World→Prop
def At(P:Program):Code→kf→Nat→Code→kf→Prop
 | .seq a b,Q,ℓ,body,Q' =>At P a (Exit.then (b.wp P Q) Q) ℓ body Q'∨At P b Q ℓ body Q'
 | .cond _ a b,Q,ℓ,body,Q' =>At P a Q ℓ body Q'∨At P b Q ℓ body Q'
 | .block id c,Q,ℓ,body,Q' =>At P c (Exit.inBlock id Q) ℓ body Q'
 | .loop c,Q,ℓ,body,Q' =>(first c= ℓ ∧body=c∧Q' =Q)∨At P c (Exit.then (O0 P c Q) Q) ℓ body Q'
 |_,_,_,_,_=>False
def dh(Q:kf):Prop:= ∀c a w,¬Q (.panic c) a w
theorem dh.then{Q:kf}(h:dh Q)(n:Act→World→Prop):dh (Exit.then n Q):=fun c a w hq=>h c a w hq
theorem dh.inBlock{Q:kf}(h:dh Q)(id:Nat):dh (Exit.inBlock id Q):=fun c a w hq=>h c a w hq
section
variable{Y:Type} {P:Program} {C:Z1} (hT:Ei P C.T) (hΓ:gj P C.Γ) (hm:P.follows .mixedOrders=true) {E0:Env} {w0:World} {N nb:Nat} {y:Y} {J:Nat→St→Option Y}
structure Good (E0:Env) (w0:World) (N nb:Nat) (y:Y) (kn:KN Y) (kx:Nat→KN Y) (kr:KN Y) (Q:kf):Prop where
 n:∀E σ a w,Ok E0 w0 N nb E σ a w→(∀ω,kn ω σ=some y)→Q .normal a w
 x:∀id E σ a w,Ok E0 w0 N nb E σ a w→(∀ω,kx id ω σ=some y)→Q (.exit id) a w
 r:∀E σ a w,Ok E0 w0 N nb E σ a w→(∀ω,kr ω σ=some y)→Q .ret a w
def JOk(P:Program)(E0:Env)(w0:World)(N nb:Nat)(y:Y)(J:Nat→St→Option Y)(cd:Code)(Q:kf):Prop:=
 ∀ ℓ body Q',At P cd Q ℓ body Q'→ ∀E σ a w,Ok E0 w0 N nb E σ a w→J ℓ σ=some y→O0 P body Q' a w
include hT hΓ hm in
theorem yb:∀{cd:Code} {kn:KN Y} {kx:Nat→KN Y} {kr:KN Y} {Q:kf} {E:Env} {σ:St} {a:Act} {w:World},dh Q→Good E0 w0 N nb y kn kx kr Q→JOk P E0 w0 N nb y J cd Q→Ok E0 w0 N nb E σ a w→
  (∀ω,run C J cd kn kx kr ω σ=some y)→cd.wp P Q a w:=by
 intro cd
 induction cd with
 |skip=>intro kn kx kr Q E σ a w hp hg hj h e;exact wp_skip (hg.n E σ a w h e)
 |region id ops draw=>
  intro kn kx kr Q E σ a w hp hg hj h e;simp only[run]at e;cases draw with
  |false=>
   simp only[ANw,AQS]at e;exact wp_region_list (ld hT hΓ hg.n h e)
  |true=>
   simp only[ASi]at e;have hs:Region.noSelect ops=true:=by
    have:=e [];split at this
    ·rename_i hh;exact hh
    ·cases this
   simp only[hs,ASi]at e;exact wp_region_any hm (sP _ _ _ _ _ (uT hT hΓ hs hp hg.n _ (h.drawn _) e))
 |seq x z ihx ihz=>
  intro kn kx kr Q E σ a w hp hg hj h e;simp only[run]at e;refine wp_seq (ihx (hp.then _) ⟨fun E σ a w h e=>ihz hp hg (fun ℓ body Q' SE=>hj ℓ body Q' (.inr SE)) h e,fun id E σ a w h e=>hg.x id E σ a w h e,hg.r⟩ (fun ℓ body Q' SE=>hj ℓ body Q' (.inl SE)) h e)
 |cond c x z ihx ihz=>
  intro kn kx kr Q E σ a w hp hg hj h e;cases c with
  |tmp t=>
   simp only[run]at e;have e0:=e [];split at e0
   ·rename_i b hb
    simp only[hb]at e;obtain⟨v,hv,hx⟩:=h.rel.tmp hb;have hvb:=SK (E:=E) (w:=w) (vw:=σ.bx) hx;subst hvb;have hev:a.eval (.tmp t)= .bool b:=by simp[Act.eval,AVm,hv]
    have hk:=wt hb;cases b with
    |true=>
     simp only[AOA,tt,hk]at e;exact wp_cond_true hev (ihx hp hg (fun ℓ body Q' SE=>hj ℓ body Q' (.inl SE)) h e)
    |false=>
     simp only[ANP,ff,hk]at e;exact wp_cond_false hev (ihz hp hg (fun ℓ body Q' SE=>hj ℓ body Q' (.inr SE)) h e)
   ·cases e0
  |_=>cases e []
 |block id c ih=>
  intro kn kx kr Q E σ a w hp hg hj h e;simp only[run]at e;refine wp_block (ih (hp.inBlock id) ⟨hg.n,fun j E σ a w h e=> ?_,hg.r⟩ (fun ℓ body Q' SE=>hj ℓ body Q' SE) h e);simp only[Exit.inBlock];split
  ·rename_i hid
   simp only[hid,ASi]at e;exact hg.n E σ a w h e
  ·rename_i hid
   simp only[hid,AQS]at e;exact hg.x j E σ a w h e
 |loop body ih=>
  intro kn kx kr Q E σ a w hp hg hj h e;simp only[run]at e;exact O0.wp (hj (first body) body Q (.inl ⟨rfl,rfl,rfl⟩) E σ a w h (e []))
 |exit id=>intro kn kx kr Q E σ a w hp hg hj h e;exact wp_exit (hg.x id E σ a w h e)
 |ret=>intro kn kx kr Q E σ a w hp hg hj h e;exact wp_ret (hg.r E σ a w h e)
 |_=>intro kn kx kr Q E σ a w hp hg hj h e;cases e []
end
end Go.Fw
end
section
namespace Go.Fw
def labels:Code→List Nat
 | .seq a b=>labels a++labels b
 | .cond _ a b=>labels a++labels b
 | .block _ c=>labels c
 | .loop c=>first c::labels c
 |_=>[]
theorem At.label{P:Program}:∀{cd:Code} {Q:kf} {ℓ :Nat} {body:Code} {Q':kf},At P cd Q ℓ body Q'→ ℓ ∈labels cd
 | .seq a b,Q,ℓ,body,Q',h=>by
  simp only[labels,AOk];exact h.imp At.label At.label
 | .cond _ a b,Q,ℓ,body,Q',h=>by
  simp only[labels,AOk];exact h.imp At.label At.label
 | .block _ c,Q,ℓ,body,Q',h=>At.label (cd:=c) h
 | .loop c,Q,ℓ,body,Q',h=>by
  simp only[labels,ARi];exact h.imp (fun h=>h.1.symm) At.label
section
variable{Y:Type} {P:Program} {C:Z1} (hT:Ei P C.T) (hΓ:gj P C.Γ) (hm:P.follows .mixedOrders=true) {E0:Env} {w0:World} {N nb:Nat} {y:Y} {J:Nat→St→Option Y}
theorem Ri{ℓ :Nat}:∀{cd:Code} {kn:KN Y} {kx:Nat→KN Y} {kr:KN Y},ℓ ∉labels cd→find C J ℓ cd kn kx kr=none
 | .seq a b,kn,kx,kr,h=>by
  simp only[labels,AOk,not_or]at h;simp only[find];rw[Ri h.1];exact Ri h.2
 | .cond _ a b,kn,kx,kr,h=>by
  simp only[labels,AOk,not_or]at h;simp only[find];rw[Ri h.1];exact Ri h.2
 | .block _ c,kn,kx,kr,h=>by simp only[find];exact Ri (cd:=c) h
 | .loop c,kn,kx,kr,h=>by
  simp only[labels,ARi,not_or]at h;simp only[find];rw[AM2 (fun e=>h.1 e.symm)];exact Ri h.2
 | .skip,_,_,_,_=>rfl
 | .region _ _ _,_,_,_,_=>rfl
 | .rangeFunc _ _ _ _,_,_,_,_=>rfl
 | .exit _,_,_,_,_=>rfl
 | .scope _,_,_,_,_=>rfl
 | .label _,_,_,_,_=>rfl
 | .goto _,_,_,_,_=>rfl
 | .ret,_,_,_,_=>rfl
 | .refuse _,_,_,_,_=>rfl
include hT hΓ hm in
theorem AHn{ℓ :Nat}:∀{cd:Code} {kn:KN Y} {kx:Nat→KN Y} {kr:KN Y} {Q:kf} {body:Code} {Q':kf},(labels cd).Nodup→dh Q→Good E0 w0 N nb y kn kx kr Q→JOk P E0 w0 N nb y J cd Q→At P cd Q ℓ body Q'→
  ∃kn' kx' kr',find C J ℓ cd kn kx kr=some (fun ω σ=>run C J body (fun _ σ=>J ℓ σ) kx' kr' ω σ)∧Good E0 w0 N nb y kn' kx' kr' Q'∧dh Q'∧JOk P E0 w0 N nb y J body (Exit.then (O0 P body Q') Q'):=by
 intro cd
 induction cd with
 |seq a b iha ihb=>
  intro kn kx kr Q body Q' hn hp hg hj SE;simp only[labels,AOj]at hn;obtain⟨n1,n2,n3⟩:=hn;have hja:JOk P E0 w0 N nb y J a (Exit.then (b.wp P Q) Q):=fun ℓ body Q' SE=>hj ℓ body Q' (.inl SE)
  have hjb:JOk P E0 w0 N nb y J b Q:=fun ℓ body Q' SE=>hj ℓ body Q' (.inr SE)
  simp only[find];rcases SE with SE|SE
  ·obtain⟨kn',kx',kr',h1,h2⟩:=iha n1 (hp.then _) (kn:=fun ω σ=>run C J b kn kx kr ω σ) (kx:=kx) (kr:=kr)
    ⟨fun E σ a w h e=>yb hT hΓ hm hp hg hjb h e,fun id E σ a w h e=>hg.x id E σ a w h e,hg.r⟩ hja SE
   exact⟨kn',kx',kr',by rw[h1],h2⟩
  ·have: ℓ ∉labels a:=fun h=>n3 ℓ h ℓ SE.label rfl
   rw[Ri this];exact ihb n2 hp hg hjb SE
 |cond c a b iha ihb=>
  intro kn kx kr Q body Q' hn hp hg hj SE;simp only[labels,AOj]at hn;obtain⟨n1,n2,n3⟩:=hn;simp only[find];rcases SE with SE|SE
  ·obtain⟨kn',kx',kr',h1,h2⟩:=iha n1 hp hg (fun ℓ body Q' SE=>hj ℓ body Q' (.inl SE)) SE
   exact⟨kn',kx',kr',by rw[h1],h2⟩
  ·have: ℓ ∉labels a:=fun h=>n3 ℓ h ℓ SE.label rfl
   rw[Ri this];exact ihb n2 hp hg (fun ℓ body Q' SE=>hj ℓ body Q' (.inr SE)) SE
 |block id c ih=>
  intro kn kx kr Q body Q' hn hp hg hj SE;simp only[find];refine ih hn (hp.inBlock id) ⟨hg.n,fun j E σ a w h e=> ?_,hg.r⟩ (fun ℓ body Q' SE=>hj ℓ body Q' SE) SE;simp only[Exit.inBlock];split
  ·rename_i hid
   simp only[hid,ASi]at e;exact hg.n E σ a w h e
  ·rename_i hid
   simp only[hid,AQS]at e;exact hg.x j E σ a w h e
 |loop c ih=>
  intro kn kx kr Q body Q' hn hp hg hj SE;simp only[labels,AVi]at hn;have hj':JOk P E0 w0 N nb y J c (Exit.then (O0 P c Q) Q):=fun ℓ body Q' SE=>hj ℓ body Q' (.inr SE)
  simp only[find];by_cases hl:first c= ℓ
  ·rw[AM1 hl]
   rcases SE with⟨_,rfl,rfl⟩|SE
   ·exact⟨kn,kx,kr,rfl,hg,hp,hj'⟩
   ·exact absurd (hl▸SE.label) hn.1
  ·rw[AM2 hl]
   rcases SE with⟨h,_⟩|SE
   ·exact absurd h hl
   ·exact ih hn.2 (hp.then _) ⟨fun E σ a w h e=>hj (first c) c Q (.inl ⟨rfl,rfl,rfl⟩) E σ a w h (e []),fun id E σ a w h e=>hg.x id E σ a w h e,hg.r⟩ hj' SE
 |_=>intro kn kx kr Q body Q' hn hp hg hj SE;exact SE.elim
end
theorem jE{E:Env}{w:World}{vw:List Bx}:∀{l:List (Nat×XP)} {x:G9.V l} {vals:List Value} {tm:List XV},Oy E w vw id l x vals→CW (XR E w vw) tm vals→CW (XR E w vw) (G9.mk id l x tm) vals
 |[],_,_,_,_,h=>h
 |(i,p)::l,x,vals,tm,hs,h=>by
  obtain⟨⟨v,hv,hx⟩,hs⟩:=hs;simp only[G9.mk];refine jE hs ?_
  have:=CW.set (i:=i) h hx;have e:vals.set i v=vals:=by
   apply AUY;grind
  simp_all
theorem CW.undef{E:Env}{w:World}{vw:List Bx}:∀{vals:List Value} {n:Nat},n=vals.length→CW (XR E w vw) (List.replicate n (.c .undef)) vals
 |[],n,h=>by subst h;trivial
 |v::vals,n,h=>by
  subst h;simp only[AOX,List.replicate_succ];exact⟨trivial,CW.undef rfl⟩
theorem uk.shared{E E1:Env}{w:World}{bx:List Bx}{m:QA}{s:A6}{x:s.V}{vals:List Value}(h:uk E w bx m s x vals E1)(hb:C8 E w bx bx []):
  ∃E2,E2.IE=E1.IE∧E2.IF=E1.IF∧dZ E w E2 w∧C8 E2 w (J6.mk id s.G6 x.2) (J6.mk id s.G6 x.2) []∧Oy E2 w (J6.mk id s.G6 x.2) id s.D2 x.1 vals:=by
 obtain⟨Fk,k1,k2,k3,k4⟩:=h.rest
 let E2:Env:={ E1 with S:=fun c=>E1.S c∨c∈Fk.flatten }
 have st1:=h.boxes.st;have keep:Tg E1 w (J6.mk id s.G6 x.2) E2 w (J6.mk id s.G6 x.2):=
  ⟨AQQ _,fun _ _=>rfl,fun _ h=>h,fun _ h=> .inl h,st1,fun _ _=>rfl,fun b d r rows _ e=>⟨d,rows,e,fun p hp q ys hg=>⟨hp,⟨ys,hg,rfl⟩,fun _ h=>h⟩⟩⟩
 refine⟨E2,rfl,rfl,⟨h.T,fun c hc=> .inl (h.S c hc),fun c hc=> ?_,fun c hc=> ?_,fun _ _=>rfl,rfl,rfl,rfl,AQQ _⟩,?_,?_⟩
 ·grind
 ·rcases hc with hc|hc
  ·exact h.zt c hc
  grind
 ·refine h.boxes.turn (E':=E2) (w':=w) (fun _ _ hv=>GS keep hv) (fun _ h=> .inl h) (fun _ _=>rfl) (fun _ _=>rfl) (fun _ _ _=>rfl) fun F hF=>⟨hF.nodup,hF.free,hF.lt,fun c hc=>hc.elim (hF.st c) fun h=>(k3 c h).2.2.2,hF.dV⟩
 ·have:∀{l:List (Nat×XP)} {z:G9.V l},Oy E1 w (J6.mk id s.G6 x.2) id l z vals→Oy E2 w (J6.mk id s.G6 x.2) id l z vals:=by
   intro l
   induction l with
   |nil=>intro z h;trivial
   |cons q l ih=>
    obtain⟨i,p⟩:=q;intro z h;obtain⟨⟨v,hv,hx⟩,hs⟩:=h;exact⟨⟨v,hv,PX keep hx⟩,ih hs⟩
  exact this h.D2
theorem gv:∀{l:List BP} {i n:Nat},(UT i n l).length=l.length
 |[],_,_=>rfl
 |_::l,i,n=>by simp[UT,gv (l:=l)]
theorem gW:∀{l:List BP} {i n k b:Nat},(UT i n l)[k]? =some (some b)→b=i+k∧b<n∧l[k]?≠some .gone
 |[],i,n,k,b,h=>by simp[UT]at h
 |p::l,i,n,0,b,h=>by
  grind[UT,List.getElem?_cons_zero,Option.some.injEq]
 |p::l,i,n,k+1,b,h=>by
  simp only[UT,List.getElem?_cons_succ]at h;obtain⟨h1,h2,h3⟩:=gW h;grind
theorem g_:∀{l:List BP} {i n k:Nat} {p:BP},l[k]? =some p→p≠ .gone→i+k<n→(UT i n l)[k]? =some (some (i+k))
 |q::l,i,n,0,p,h,hg,hn=>by
  simp at h;subst h;simp only[UT,List.getElem?_cons_zero,ANB];simp_all
 |q::l,i,n,k+1,p,h,hg,hn=>by
  simp only[UT,List.getElem?_cons_succ];rw[g_ (l:=l) (i:=i+1) (k:=k) (by simp_all) hg (by omega)];grind
 |[],_,_,_,_,h,_,_=>by simp at h
theorem pM{l:List BP}{n:Nat}:qW (UT 0 n l):=fun i j b h k=>by
 have:=(gW h).1;have:=(gW k).1;omega
end Go.Fw
end
section
namespace Go.Fw
structure AWO (P:Program) (f:Nat) (fn:Func) (c:QJ):Prop where
 at_:P.funcs[f]? =some fn
 call:∀args w,(callFunc f args).run P w= .ok (.enter f args) w
 con:c.ok=true
 tmps:c.ins.D2.length≤fn.ntmps
 labels:∀code,fn.body=some code→(labels code).Nodup
section
variable{P:Program} {C:Z1} (hT:Ei P C.T) {E:Env} {σ:St} {a:Act} {w:World}
include hT in
theorem AEj(h:Rel E σ a w):
  ∀{rs:List ResultVar} {xs:List XV},rs.mapM (AEV C.T σ)=some xs→ ∃vs,(∀f:ResultVar→Sem Value,(∀u,f (.tmp u)=pure (a.tmps.getD u undef))→(∀b t,f (.cell b t)=(do loadVar t (←asAddr (a.tmps.getD b undef))))→
   (rs.mapM f).run P w= .ok vs w)∧CW (XR E w σ.bx) xs vs:=by
 intro rs
 induction rs with
 |nil=>
  intro xs e;have hx:xs=[]:=by simpa using e.symm
  subst hx;exact⟨[],fun f _ _=>by simp,trivial⟩
 |cons r rs ih=>
  intro xs e;rw[AXT]at e;simp only[Option.bind_eq_bind,ANU,Option.pure_def,ANB]at e;obtain⟨x,e1,ys,e2,rfl⟩:=e;obtain⟨vs,h1,h2⟩:=ih e2;have one:∃v,(∀f:ResultVar→Sem Value,(∀u,f (.tmp u)=pure (a.tmps.getD u undef))→(∀b t,f (.cell b t)=(do loadVar t (←asAddr (a.tmps.getD b undef))))→(f r).run P w= .ok v w)∧XR E w σ.bx x v:=by
   cases r with
   |tmp t=>
    simp only[AEV]at e1;obtain⟨v,hv,hx⟩:=h.tmp e1;refine⟨v,fun f hf hc=> ?_,hx⟩;rw[hf];simp[AVm,hv]
   |cell b t=>
    simp only[AEV]at e1;split at e1
    case h_2=>cases e1
    rename_i z hz;obtain⟨v,hv,hx⟩:=h.tmp hz;obtain⟨Fs,hB,hS⟩:=h.bx;cases z with
    |agg l=>simp[mL]at e1
    |M3 l=>simp[mL]at e1
    |c ad=>
     obtain⟨bb,oo,u,cell,hp,_,q2,q3⟩:=sE hT hB hS.st e1 hx;refine⟨u,fun f hf hc=> ?_,q2⟩;have hgd:a.tmps.getD b undef=v:=by simp[AVm,hv]
     have:=q3 w rfl;rw[hc,hgd,hp];rw[hp]at this;simpa[Instr.loadAt,Instr.sureAddr,asAddr]using this
  obtain⟨v,g1,g2⟩:=one;refine⟨v::vs,fun f hf hc=> ?_,g2,h2⟩;rw[AXT];simp[g1 f hf hc,h1 f hf hc]
theorem gV{vw:List Bx}:∀{l:List XV} {q:List (AV ⊕ List AV)} {vs:List Value},wF l=some q→CW (XR E w vw) l vs→CW (TR E w vw) q vs
 |[],q,[],e,_=>by
  simp only[wF,ANB]at e;subst e;trivial
 |[],_,_::_,_,h=>h.elim
 | .c x::l,q,v::vs,e,h=>by
  simp only[wF,AND]at e;obtain⟨r,e1,rfl⟩:=e;exact⟨h.1,gV e1 h.2⟩
 | .agg x::l,q,v::vs,e,h=>by
  simp only[wF,AND]at e;obtain⟨r,e1,rfl⟩:=e;exact⟨h.1,gV e1 h.2⟩
 | .M3 _::_,_,_,e,_=>by simp[wF]at e
 | .c _::_,_,[],_,h=>h.elim
 | .agg _::_,_,[],_,h=>h.elim
include hT in
theorem ru(h:Rel E σ a w){fn:Func}{x:XV}(e:jN C.T σ fn.results.toList=some x):∃v,(results fn a.tmps).run P w= .ok v w∧XR E w σ.bx x v:=by
 unfold jN at e;have key:∀xs,fn.results.toList.mapM (AEV C.T σ)=some xs→ ∃vs:List Value,(results fn a.tmps).run P w= .ok (if h:vs.toArray.size=1 then vs.toArray[0]else .tuple vs.toArray) w∧CW (XR E w σ.bx) xs vs:=by
  intro xs hx;obtain⟨vs,h1,h2⟩:=AEj (P:=P) hT h hx;refine⟨vs,?_,h2⟩;unfold results;rw[Array.mapM_eq_mapM_toList];simp only[Sem.run_bind,Sem.run_map];rw[h1 _ (fun _=>rfl) (fun _ _=>rfl)];simp only[Result.andThen_ok,Sem.run_pure]
 split at e
 ·rename_i z hz
  cases e;obtain⟨vs,h1,h2⟩:=key _ hz
  match vs,h2 with
  |[v],h2=>exact⟨v,by simpa using h1,h2.1⟩
  |v::_::_,h2=>exact h2.2.elim
  |[],h2=>exact h2.elim
 ·rename_i l hl hz
  simp only[AND]at e;obtain⟨q,e1,rfl⟩:=e;obtain⟨vs,h1,h2⟩:=key _ hz;have ea: ¬vs.toArray.size=1:=fun hs=>by
   have:=CW.len h2
   match l,this with
   |[z],_=>exact hl z rfl
   |[],t=>simp at t hs;omega
   |_::_::_,t=>simp at t hs;omega
  rw[dif_neg ea]at h1;exact⟨_,h1,vs.toArray,rfl,by simpa using gV e1 h2⟩
 ·cases e
end
theorem gE{E:Env}{w:World}{vw:List Bx}{more:List Value}:∀{l:List (Nat×XP)} {x:G9.V l} {vals:List Value},Oy E w vw id l x vals→Oy E w vw id l x (vals++more)
 |[],_,_,_=>trivial
 |(i,p)::l,x,vals,h=>by
  obtain⟨⟨v,hv,hx⟩,hs⟩:=h;exact⟨⟨v,by grind,hx⟩,gE hs⟩
def z6(C:Z1)(c:QJ)(fn:Func)(code:Code)(J:Nat→Nat→St→Option c.outs.V):Prop:=
 ∀ ℓ,ℓ ∈labels code→ ∃(s:A6) (F:Nat→s.V→Option c.outs.V),(∀n,J n ℓ =jump c.ins.G6.length s (F n))∧(∀v,F 0 v=none)∧
  ∀n v y,F (n+1) v=some y→ ∀ω,Hi C c fn (J n) ℓ ω (s.st fn.ntmps v)=some y
section
variable{P:Program} {C:Z1} (hT:Ei P C.T) (hΓ:gj P C.Γ) (hm:P.follows .mixedOrders=true) {fn:Func} {c:QJ}
def APB(c:QJ)(E0:Env)(w0:World)(u:c.outs.V)(e:Ending)(w':World):Prop:=
 ∃x E',e= .returned x∧dZ E0 w0 E' w'∧C8 E' w' (J6.mk id c.outs.G6 u.2) (J6.mk id c.outs.G6 u.2) []∧
  Oy E' w' (J6.mk id c.outs.G6 u.2) id c.outs.D2 u.1 [x]∧ ∀i,i<c.ins.G6.length→alive c.outs.G6 i=true→E'.IE i=E0.IE i∧E'.IF i=E0.IF i
theorem Ok.opens{E0 E:Env}{w0 w:World}{N nb:Nat}{σ:St}{a:Act}(h:Ok E0 w0 N nb E σ a w)(s:A6):∃E',Ok E0 w0 N nb E' { σ with bx:=s.opens σ.bx } a w∧
  (∀(i:Nat) d r,s.G6[i]? =some (.sl d r)→E'.IF (σ.bx.length+i)= .slice none 0 0)∧(∀x v,XR E w σ.bx x v→XR E' w (s.opens σ.bx) x v):=by
 obtain⟨E',h1,h2,h3,h4⟩:=s8 h.rel s;exact⟨E',h.next h1 h2 rfl,h3,h4⟩
theorem AEc{E E':Env}{w:World}{vw:List Bx}{b:Nat}(h:Le E E')(st:∀c,E.S c→E.T c):Tg E w vw E' w (vw.set b .dead):=by
 refine⟨by simp,fun b _=>by rw[h.IE],h.T,h.S,st,fun _ _=>rfl,fun c d r rows _ e=> ?_⟩;by_cases hc:c=b
 ·simp_all
 ·rw[ASc (fun e=>hc e.symm)]at e
  exact⟨d,rows,e,fun p hp q ys hg=>⟨hp,⟨ys,hg,rfl⟩,fun h' hh=>by rw[h.IF];omega⟩⟩
theorem AGM{E:Env}{σ:St}{a:Act}{w:World}(h:Rel E σ a w)(b:Nat):∃E',Rel E' (σ.pN b) a w∧Le E E':=by
 unfold St.pN;split
 case h_2=>grind[Le.refl]
 rename_i d r rows hb;obtain⟨F,hF,hB⟩:=h.bx.take hb;have Yl:C8 E w σ.bx (σ.bx.set b .dead) ([]++F++[]):=by simp_all
 obtain⟨hle,hB3⟩:=Yl.share;have hk:=AEc (vw:=σ.bx) (b:=b) (w:=w) hle h.bx.st;have hk2:Tg E w σ.bx { E with S:=fun c=>E.S c∨c∈F,T:=fun c=>E.T c∨c∈F } w ((σ.bx.set b .dead).map (Bx.pN b r rows)):=by
  refine⟨by simp,hk.IE,hk.T,hk.S,hk.st,hk.heap,fun c d' r' C0 hc e=> ?_⟩;rw[ASa,AND]at e;obtain⟨B,e,eB⟩:=e;cases B with
  |mem cs=>cases eB
  |dead=>cases eB
  |sl d0 r0 TH=>
   cases eB;grind
 have hv:∀x v,VR E w σ.bx x v→VR { E with S:=fun c=>E.S c∨c∈F,T:=fun c=>E.T c∨c∈F } w ((σ.bx.set b .dead).map (Bx.pN b r rows)) (x.pN b r rows) v:=fun x v hx=>by
  unfold AV.pN;split
  ·rename_i c
   split
   ·rename_i hc
    subst hc;obtain⟨h1,h2⟩:=hx;rw[hb]at h2;have hv:=h2.2.2;rw[DA]at hv;simp only[ANB]at hv;have:=X_ hF.2;rw[hv]at this;exact Fu (fun c hc=>hc) (fun _ _=>rfl) this
   grind[GS]
  grind[GS]
 refine⟨_,⟨h.OO,?_,?_⟩,hle⟩
 ·refine CW.Lk _ (fun x v hx=> ?_) h.tm
  unfold XV.pN;split
  ·exact hv _ _ hx
  grind[PX]
 ·obtain⟨Fs,⟨hl,h1⟩,h2⟩:=hB
  have h2':Sep E w (F++Fs.flatten):=h2.perm (by grind);refine⟨Fs,⟨by simp_all,fun k B G UA hG=> ?_⟩,?_⟩
  ·rw[ASa,AND]at UA
   obtain⟨B0,e,rfl⟩:=UA;have h3:=h1 k B0 G e hG;cases B0 with
   |mem cs=>
    obtain⟨rfl,arr,ty,fr,a1,a2,a3⟩:=h3;exact⟨rfl,arr,ty,fr,a1,a2,CW.Lk _ (fun x v hx=>hv x v hx) a3⟩
   |sl d0 r0 TH=>exact⟨h3.1,Eb hle.S (fun _ _=>rfl) (fun _ _=>rfl) h3.2⟩
   |dead=>exact h3
  ·rw[AOC]
   have st:=h.bx.st;refine⟨(AOj.1 h2'.nodup).2.1,fun c hc ht=> ?_,fun c hc=>h2'.lt c (by simp_all),fun c hc=>hc.imp (st c) id,fun c hc=>hc.elim (h2'.dV c) fun h' =>h2'.lt c (by simp[h'])⟩;rcases ht with ht|ht
   ·exact h2'.free c (AOk.2 (.inr hc)) ht
   ·exact(AOj.1 h2'.nodup).2.2 c ht c hc rfl
theorem AD3{σ:St}{b i:Nat}(h:σ.bx[i]? =some .dead):(σ.pN b).bx[i]? =some .dead:=by
 unfold St.pN;split
 ·simp only[ASa,List.getElem?_set]
  split
  ·simp_all
  ·rw[h];rfl
 omega
theorem zR{σ:St}{b:Nat}:(σ.pN b).bx.length=σ.bx.length∧(σ.pN b).tm.length=σ.tm.length:=by
 grind[St.pN]
theorem Ok.pN{E0 E:Env}{w0 w:World}{N nb:Nat}{σ:St}{a:Act}(h:Ok E0 w0 N nb E σ a w)(b:Nat):∃E',Ok E0 w0 N nb E' (σ.pN b) a w:=by
 obtain⟨E',h1,h2⟩:=AGM h.rel b;refine⟨E',⟨h1,h.base.trans (h2.base w),by rw[zR.2];exact h.tm,by rw[zR.1];exact h.q9,fun i hi hd=> ?_⟩⟩;rw[h2.IE,h2.IF];exact h.ids i hi fun e=>hd (AD3 e)
theorem Ok.HH{E0:Env}{w0 w:World}{N nb:Nat}{a:Act}:∀(l:List AP) (xs:List AV) {E:Env} {σ:St},Ok E0 w0 N nb E σ a w→ ∃E',Ok E0 w0 N nb E' (HH l xs σ) a w:=by
 intro l xs E σ h
 induction l generalizing xs E σ with
 |nil=>grind[Fw.HH]
 |cons p l ih=>
  unfold Fw.HH;split
  ·rename_i heq
   cases heq;obtain⟨E',h'⟩:=h.pN _;exact ih _ h'
  ·rename_i heq
   cases heq;exact ih _ h
  grind
theorem Ok.AZ7{E0:Env}{w0 w:World}{N nb:Nat}{a:Act}{bs:List BP}:∀(l:List (Nat×XP)) {E:Env} {σ:St},Ok E0 w0 N nb E σ a w→ ∃E',Ok E0 w0 N nb E' (Qa bs l σ) a w:=by
 intro l
 induction l with
 |nil=>intro E σ h;exact⟨E,h⟩
 |cons q l ih=>
  intro E σ h;unfold Qa;split
  ·simp_all
  ·rename_i e
   cases e;split
   ·obtain⟨E',h'⟩:=h.HH [_] [_]
    exact ih h'
   grind
  ·rename_i e
   cases e;split
   ·split
    ·obtain⟨E',h'⟩:=h.HH _ _
     exact ih h'
    grind
   grind
  grind
theorem ur{E:Env}{w:World}{vw:List Bx}{x:AV}{v:Value}(h:VR E w vw x v)(hx:x.sV=true):isSlice v=true:=by
 cases x with
 |ref b p=>exact h.1
 |win b p o n=>exact h.1
 |sl s r y=>
  simp only[VR,Rd]at h;obtain⟨a,cap,h,_⟩:=h;simp only[AR6,ASq]at h;rw[h];rfl
 |nil=>cases h;rfl
 |_=>cases hx
theorem xl{E:Env}{σ:St}{a:Act}{w:World}(h:Rel E σ a w)(b j:Nat):Rel E (σ.forget b j) a w∧σ.bx.length≤(σ.forget b j).bx.length∧(∀i:Nat,σ.bx[i]? =some Bx.dead→(σ.forget b j).bx[i]? =some Bx.dead)∧(σ.forget b j).tm=σ.tm:=by
 unfold St.forget;split
 case h_2=>simp_all
 rename_i cs hb;split
 case h_2=>simp_all
 rename_i x hx;split
 case isFalse=>simp_all
 rename_i hs;have hbl:=(ANF.1 hb).1;have hk:Tg E w σ.bx E w (σ.bx.set b (.mem (cs.set j (.ref σ.bx.length [])))++[.dead]):=by
  refine⟨by simp,fun _ _=>rfl,fun _ h=>h,fun _ h=>h,h.bx.st,fun _ _=>rfl,fun c d r rows hc e=> ?_⟩;grind
 refine⟨⟨h.OO,h.tm.imp fun _ _ hx=>PX hk hx,?_⟩,by simp,fun i hi=> ?_,rfl⟩
 ·obtain⟨Fs,⟨hl,h1⟩,h2⟩:=h.bx
  refine⟨Fs++[[]],⟨by simp[hl],fun k B G hB hG=> ?_⟩,by simp_all⟩;by_cases hk2:k<σ.bx.length
  ·rw[AOw (by simp_all)]at hB
   rw[AOw (by omega)]at hG;by_cases hkb:b=k
   ·subst hkb
    rw[ASy hk2]at hB;cases hB;obtain⟨rfl,arr,ty,fr,a1,a2,a3⟩:=h1 b _ G hb hG;refine⟨rfl,arr,ty,fr,a1,a2,?_⟩;have a4:jj E w (σ.bx.set b (.mem (cs.set j (.ref σ.bx.length [])))++[.dead]) cs arr.toList:=a3.imp fun _ _ hv=>GS hk hv
    obtain⟨v,hv,hvr⟩:=a3.get hx;have Va:arr.toList.set j v=arr.toList:=by
     apply AUY;grind
    rw[←Va];refine CW.set a4 ⟨ur hvr hs,?_⟩;simp_all
   ·rw[ASc hkb]at hB
    have h3:=h1 k B G hB hG;cases B with
    |mem eD=>
     obtain⟨rfl,arr,ty,fr,a1,a2,a3⟩:=h3;exact⟨rfl,arr,ty,fr,a1,a2,a3.imp fun _ _ hv=>GS hk hv⟩
    |sl d0 r0 TH=>exact h3
    |dead=>exact h3
  ·have hlen:=(ANF.1 hB).1
   simp only[AOq,ASx,AOX,AQl]at hlen;have hkk:k=σ.bx.length:=by omega
   subst hkk;rw[AP3 (by simp)]at hB;rw[AP3 (by omega)]at hG;simp[hl]at hB hG;subst hB hG;rfl
 grind
theorem Ok.forget{E0 E:Env}{w0 w:World}{N nb:Nat}{σ:St}{a:Act}(h:Ok E0 w0 N nb E σ a w)(b j:Nat):Ok E0 w0 N nb E (σ.forget b j) a w:=by
 obtain⟨h1,h2,h3,h4⟩:=xl h.rel b j;exact⟨h1,h.base,by rw[h4];exact h.tm,ASY h.q9 h2,fun i hi hd=>h.ids i hi fun e=>hd (h3 i e)⟩
theorem Ok.Yg{E0 E:Env}{w0 w:World}{N nb:Nat}{a:Act}{bs:List BP}{b:Nat}:∀(l:List AP) (j:Nat) {σ:St},Ok E0 w0 N nb E σ a w→Ok E0 w0 N nb E (Yg bs b j l σ) a w
 |[],_,_,h=>h
 |p::l,j,σ,h=>by
  simp only[Fw.Yg];refine Ok.Yg l (j+1) ?_
  split
  ·split
   ·exact h.forget _ _
   omega
  omega
theorem Ok.ATv{E0 E:Env}{w0 w:World}{N nb:Nat}{a:Act}{bs:List BP}:∀(l:List (Nat×XP)) {σ:St},Ok E0 w0 N nb E σ a w→Ok E0 w0 N nb E (df bs l σ) a w
 |[],_,h=>h
 |(i,p)::l,σ,h=>by
  simp only[df];refine Ok.ATv l ?_
  split
  ·split
   ·exact h.Yg _ _
   omega
  omega
theorem Ok.bg{E0:Env}{w0 w:World}{N nb:Nat}{a:Act}:∀(l:List (AP ⊕ List AP)) (xs:List (AV ⊕ List AV)) {E:Env} {σ:St},Ok E0 w0 N nb E σ a w→ ∃E',Ok E0 w0 N nb E' (bg l xs σ) a w:=by
 intro l xs E σ h
 induction l generalizing xs E σ with
 |nil=>unfold Fw.bg;exact⟨E,h⟩
 |cons p l ih=>
  unfold Fw.bg;split
  ·rename_i heq
   cases heq;obtain⟨E',h'⟩:=h.HH _ _;exact ih _ h'
  ·rename_i heq
   cases heq;obtain⟨E',h'⟩:=h.HH _ _;exact ih _ h'
  ·rename_i heq
   cases heq;exact ih _ h
  ·exact⟨E,h⟩
theorem Ok.ln{E0 E:Env}{w0 w:World}{N nb:Nat}{σ:St}{a:Act}(h:Ok E0 w0 N nb E σ a w)(l:List (Nat×XP))(x:XV):∃E',Ok E0 w0 N nb E' (ln l x σ) a w:=by
 unfold Fw.ln;split
 ·unfold AVB
  split
  ·exact h.HH _ _
  ·exact h.HH _ _
  ·exact h.bg _ _
  ·exact⟨E,h⟩
 ·exact⟨E,h⟩
include hT in
theorem sj{E0 E:Env}{w0 w:World}{N:Nat}{σ:St}{a:Act}{u:c.outs.V}(h:Ok E0 w0 N c.ins.G6.length E σ a w)(e:rB C.T c fn.results.toList σ=some u):
  a.defers=[]∧ ∃v,(results fn a.tmps).run P w= .ok v w∧APB c E0 w0 u (.returned v) w:=by
 unfold rB at e;simp only[ANU,AND]at e;obtain⟨x0,_,x,e1,⟨u',m⟩,e2,rfl⟩:=e;obtain⟨E,h⟩:=h.ln c.outs.D2 x0;revert h e1 e2
 generalize Fw.ln c.outs.D2 x0 σ=σ
 intro e1 e2 h;obtain⟨v,h1,h2⟩:=ru hT h.rel e1;obtain⟨E,h,wT,h4⟩:=h.opens c.outs
 replace h2:=h4 _ _ h2
 obtain⟨hext,E1,hf⟩:=lS (tm:=[x]) (vals:=[v]) h.rel.bx ⟨h2,trivial⟩ wT gv pM e2;obtain⟨E2,q1,q2,q3,q4,q5⟩:=hf.shared h.rel.bx;refine⟨h.rel.OO,v,h1,v,E2,rfl,h.base.trans q3,q4,q5,fun i hi hal=> ?_⟩;obtain⟨p,hp,hg⟩:∃p,c.outs.G6[i]? =some p∧p≠ .gone:=by
  unfold alive at hal;cases hh:c.outs.G6[i]? with
  |none=>rw[hh]at hal;cases hal
  |some p=>
   refine⟨p,rfl,fun hp=> ?_⟩;rw[hh,hp]at hal;cases hal
 have hm1:=hext.2 i i (by have:=g_ (i:=0) (n:=c.ins.G6.length) hp hg (by omega);simpa using this);obtain⟨b,B,g1,g2,g3,_⟩:=tb e2 i p hp hg;rw[hm1]at g1;cases g1;have hid:=hf.ids i i hm1;have AEL:=h.ids i hi (fun hd=>by rw[g2]at hd;cases hd;exact g3 rfl);rw[q1,q2];exact⟨hid.1.trans AEL.1,hid.2.trans AEL.2⟩
include hT hΓ hm in
theorem ADM{code:Code}(hb:fn.body=some code)(hl:(labels code).Nodup){J:Nat→Nat→St→Option c.outs.V}(hJ:z6 C c fn code J)
  {E0:Env} {w0:World} {u:c.outs.V} {Q:kf} (hp:dh Q)
  (hg:Good E0 w0 fn.ntmps c.ins.G6.length u (fun _=>rB C.T c fn.results.toList) (fun _ _ _=>none) (fun _=>rB C.T c fn.results.toList) Q):
  ∀n,JOk P E0 w0 fn.ntmps c.ins.G6.length u (J n) code Q:=by
 intro n
 induction n with
 |zero=>
  intro ℓ body Q' SE E σ a w h e;obtain⟨s,F,j1,j2,j3⟩:=hJ ℓ SE.label;rw[j1]at e;simp only[jump]at e;split at e
  ·rw[ANU]at e
   obtain⟨q,_,e⟩:=e;rw[j2]at e;cases e
  ·cases e
 |succ n ih=>
  intro ℓ body Q' SE E σ a w h e;obtain⟨s,F,j1,j2,j3⟩:=hJ ℓ SE.label;rw[j1]at e;simp only[jump]at e;split at e
  case isFalse=>cases e
  rename_i q9;rw[ANU]at e;obtain⟨⟨v,m⟩,e1,e2⟩:=e;dsimp only at e2;obtain⟨E,h⟩:=h.AZ7 (bs:=s.G6) s.D2
  replace h:=h.ATv (bs:=s.G6) s.D2
  revert h e1
  generalize df s.G6 s.D2 (Qa s.G6 s.D2 σ)=σ
  intro e1 h;obtain⟨E,h,wT,h4⟩:=h.opens s;obtain⟨hext,E1,hf⟩:=lS h.rel.bx h.rel.tm wT gv pM e1;obtain⟨E2,q1,q2,q3,q4,q5⟩:=hf.shared h.rel.bx;have P5:fn.ntmps=a.tmps.toList.length:=by rw[←CW.len h.rel.tm,h.tm]
  have FW:Ok E0 w0 fn.ntmps c.ins.G6.length E2 (s.st fn.ntmps v) a w:=by
   refine⟨⟨h.rel.OO,jE q5 (CW.undef P5),q4⟩,h.base.trans q3,?_,?_,fun i hi hd=> ?_⟩
   ·have:=CW.len (jE q5 (CW.undef P5))
    simp only[A6.st];rw[this,←P5]
   ·simp only[A6.st]
    rw[UN];exact q9
   ·simp only[A6.st]at hd
    have hp':s.G6[i]? =some (s.G6[i]'(by omega)):=AM4 _;have hng:s.G6[i]'(by omega)≠ .gone:=fun vz=>by
     obtain⟨z,z1,_⟩:=bc id (u:=v.2) hp';apply hd;rw[z1]
     generalize s.G6[i]'(by omega)=pp at z vz
     subst vz;rfl
    have hm1:=hext.2 i i (by have:=g_ (i:=0) (n:=c.ins.G6.length) hp' hng (by omega);simpa using this);obtain⟨b,B,g1,g2,g3,_⟩:=tb e1 i _ hp' hng;rw[hm1]at g1;cases g1;have hid:=hf.ids i i hm1;have AEL:=h.ids i hi (fun hd=>by rw[g2]at hd;cases hd;exact g3 rfl);rw[q1,q2];exact⟨hid.1.trans AEL.1,hid.2.trans AEL.2⟩
  have ADe:=j3 n v u e2;obtain⟨kn',kx',kr',hfind,mb,hnp,hj⟩:=AHn hT hΓ hm hl hp hg ih SE;simp only[Hi,hb,hfind]at ADe;refine O0.AIb (yb hT hΓ hm (hnp.then _) (kn:=fun _ σ=>J n ℓ σ) ⟨fun E σ a w h e=> ?_,fun id E σ a w h e=>mb.x id E σ a w h e,mb.r⟩ hj FW ADe);exact ih ℓ body Q' SE E σ a w h (e [])
include hT hΓ hm in
theorem ADI{f:Nat}(hf:AWO P f fn c){J:Nat→Nat→St→Option c.outs.V}(hJ:∀code,fn.body=some code→z6 C c fn code J)
  (hg:∀v u,c.g v=some u→ ∃n,∀ω,Ci C c fn (J n) ω v=some u):YK P f c:=by
 refine⟨hf.con,hf.call,fun E w v args u Is hB hS hgv=> ?_⟩;obtain⟨n,hn⟩:=hg v u hgv;cases hb:fn.body with
 |none=>
  have:=hn [];simp only[Ci,hb]at this;cases this
 |some code=>
  simp only[Ci,hb]at hn;refine calls_of_wp hf.at_ hb ?_
  have hp:dh (bodyPost P fn (APB c E w u)):=fun ch a w' hq=>by
   obtain⟨_,x,E',hx,_⟩:=hq;cases hx
  have mb:Good E w fn.ntmps c.ins.G6.length u (fun _=>rB C.T c fn.results.toList) (fun _ _ _=>none) (fun _=>rB C.T c fn.results.toList) (bodyPost P fn (APB c E w u)):=
   ⟨fun E' σ a w' h e=>sj hT h (e []),fun id E' σ a w' h e=>(by cases e []),fun E' σ a w' h e=>sj hT h (e [])⟩
  have FW:Ok E w fn.ntmps c.ins.G6.length E (c.ins.st fn.ntmps v) { tmps:=args++Array.replicate (fn.ntmps-args.size) undef,defers:=[] } w:=by
   have htm:CW (XR E w (J6.mk id c.ins.G6 v.2)) (G9.mk id c.ins.D2 v.1 (List.replicate fn.ntmps (.c .undef))) (args++Array.replicate (fn.ntmps-args.size) undef).toList:=by
    rw[Array.toList_append];refine jE (gE hS) (CW.undef ?_);have:=hf.tmps;simp;omega
   refine⟨⟨rfl,htm,hB⟩,dZ.refl E w,?_,by simp only[A6.st];rw[UN];exact AQQ _,fun _ _ _=>⟨rfl,rfl⟩⟩;simp only[A6.st];rw[CW.len htm];have:=hf.tmps;simp;omega
  exact yb hT hΓ hm hp mb (ADM hT hΓ hm hb (hf.labels code hb) (hJ code hb) hp mb n) FW hn
end
end Go.Fw
end
section
namespace Go.Fw
def F8:List Ty→Ty
 |[]=> .unit
 |c::l=> .cons c (F8 l)
def wR(row:TypeId→Option (List Ty×Bool))(cells:TypeId→Nat):Nat→List Field→Option (List Ty)
 |_,[]=>some []
 |o,f::fs=>
  match row f.type with
  |some (l,_)=>if f.offset=o∧cells f.type=l.length then(wR row cells (o+l.length) fs).map (l++ ·)else none
  |none=>none
def lZ:List Ty×Bool→Ty
 |(l,true)=>F8 l
 |([c],false)=>c
 |_=> .unit
def rowOf(P:Program):Nat→TypeId→Option (List Ty×Bool)
 |0,_=>none
 |n+1,t=>
  match P.underlying t with
  |some (.int k)=>some ([.int k],false)
  |some .bool=>some ([.bool],false)
  |some .string=>some ([.str],false)
  |some (.slice e)=>
   match rowOf P n e with
   |some q=>if P.cellsOf e=q.1.length∧0<q.1.length then some ([.sl (lZ q)],false)else none
   |none=>none
  |some (.struct fs)=>
   match wR (rowOf P n) P.cellsOf 0 fs.toList with
   |some l=>if P.cellsOf t=l.length then some (l,true)else none
   |none=>none
  |_=>none
def Vd:(t:Ty)→t.D→Prop
 | .int k,x=>(Lit.int k x).wf=true
 | .bool,_=>True
 | .str,x=>List.length x≤maxLen
 | .sl r,x=>List.length x≤maxLen∧ ∀y∈x,Vd r y
 | .unit,_=>True
 | .cons c r,x=>Vd c x.1∧Vd r x.2
theorem jO{α:Type}{p:Nat→α→Prop}:∀{n:Nat},(∀i,i<n→ ∃y,p i y)→ ∃x:List α,x.length=n∧ ∀(i:Nat) y,x[i]? =some y→p i y
 |0,_=>⟨[],rfl,fun i y h=>by simp at h⟩
 |n+1,h=>by
  obtain⟨x,h1,h2⟩:=jO (n:=n) (p:=p) (fun i hi=>h i (by omega));obtain⟨y,hy⟩:=h n (by omega);refine⟨x++[y],by simp[h1],fun i z hz=> ?_⟩;grind
theorem so{w:World}{B:Nat→Prop}:∀{l m:List Ty} {cs ds:List Value} {x:(F8 l).D} {y:(F8 m).D},Rd w B (F8 l) cs x→Rd w B (F8 m) ds y→Vd (F8 l) x→Vd (F8 m) y→
  ∃z:(F8 (l++m)).D,Rd w B (F8 (l++m)) (cs++ds) z∧Vd (F8 (l++m)) z
 |[],m,cs,ds,x,y,h,k,hx,hy=>by
  simp only[F8,Rd]at h;subst h;exact⟨y,k,hy⟩
 |c::l,m,cs,ds,x,y,h,k,hx,hy=>by
  simp only[F8,Rd]at h;obtain⟨v,r,rfl,h1,h2⟩:=h;obtain⟨z,z1,z2⟩:=so h2 k hx.2 hy;exact⟨(x.1,z),by simp only[AS0,F8,Rd];exact⟨v,r++ds,rfl,h1,z1⟩,hx.1,z2⟩
theorem ABg{P:Program}{n:Nat}{t:TypeId}{l:List Ty}(h:rowOf P n t=some (l,false)):∃c,l=[c]:=by
 cases n with
 |zero=>simp[rowOf]at h
 |succ n=>
  simp only[rowOf]at h;grind
theorem uD{w:World}{B:Nat→Prop}{P:Program}{n:Nat}{t:TypeId}{q:List Ty×Bool}(h:rowOf P n t=some q){cs:List Value}{x:(F8 q.1).D}(hx:Rd w B (F8 q.1) cs x)(hv:Vd (F8 q.1) x):
  (lZ q).n=q.1.length∧ ∃y:(lZ q).D,Rd w B (lZ q) cs y∧Vd (lZ q) y:=by
 obtain⟨l,b⟩:=q;cases b with
 |true=>
  refine⟨?_,x,hx,hv⟩;clear h hx hv x;simp only[lZ]
  induction l with
  |nil=>rfl
  |cons c l ih=>simp[F8,Ty.n,ih]
 |false=>
  obtain⟨c,rfl⟩:=ABg h;simp only[F8,Rd]at hx;obtain⟨v,r,rfl,h1,h2⟩:=hx;subst h2;refine⟨?_,x.1,h1,hv.1⟩;have:=ku h1;grind[lZ]
theorem ABZ(a:Addr):a.add 0=a:=by rfl
theorem AB7{w:World}{a:Addr}{v:Value}(h:w.cell? a=some v):a.spot=none:=by
 unfold World.cell? at h;split at h
 all_goals simp_all
section
variable{H:Type} {enc:TypeId×Value→H} {P:Program} {w:World} {spare:Nat→Bool} {held:Bool}
theorem j9:∀(n:Nat) {t:TypeId} {q:List Ty×Bool},rowOf P n t=some q→ ∀{fuel:Nat} {cs:List Value} {x:DataW H×List MemPlace},DataW.trod enc P w 0 spare held fuel t cs=some x→
  ∃y:(F8 q.1).D,Rd w (fun b=>b<w.heap.size) (F8 q.1) cs y∧Vd (F8 q.1) y
 |0,t,q,h,_,_,_,_=>by simp[rowOf]at h
 |n+1,t,q,h,fuel,cs,x,hx=>by
  simp only[rowOf]at h;split at h
  ·rename_i k hu
   cases h;obtain⟨m,rfl,_,hw⟩:=DataW.trod_int hu hx;exact⟨(m,()),by simp[F8,Rd],hw,trivial⟩
  ·rename_i hu
   cases h;obtain⟨b,rfl,_⟩:=DataW.trod_bool hu hx;exact⟨(b,()),by simp[F8,Rd],trivial,trivial⟩
  ·rename_i hu
   cases h;obtain⟨s,rfl,_,hs⟩:=DataW.trod_string hu hx;refine⟨(s.data.toList,()),by simp[F8,Rd],?_,trivial⟩
   show s.data.toList.length≤maxLen
   simp_all
  ·rename_i e hu
   split at h
   case h_2=>cases h
   rename_i q' hq';split at h
   case isFalse=>cases h
   rename_i ADv;cases h;rcases DataW.trod_slice hu hx with⟨rfl,_⟩|⟨a,len,cap,elems,rest,m,_,rfl,_,_,hlc,hcm,Vb,SE,_,_⟩
   ·refine⟨([],()),?_,⟨by simp,by simp⟩,trivial⟩
    simp only[F8,Rd];simp_all
   ·have each:∀i,i<len→ ∃y:(lZ q').D,Vd (lZ q') y∧ ∃ds,ds.length=(lZ q').n∧(∀j,j<ds.length→w.cell? ((a.add (i*P.cellsOf e)).add j)=ds[j]?)∧Rd w (fun b=>b<w.heap.size) (lZ q') ds y:=by
     intro i hi;have hz:elems[i]? =some (elems[i]'(by omega)):=AM4 _;have h1:=SE i hi;rw[hz,ANU]at h1;obtain⟨ds,hds,htr⟩:=h1;obtain⟨z,z1,z2⟩:=j9 n hq' htr;obtain⟨_,c1,c2⟩:=World.cells?_some hds
     grind[uD]
    obtain⟨xs,x1,x2⟩:=jO each;refine⟨(xs,()),?_,⟨by grind,fun y hy=> ?_⟩,trivial⟩
    ·simp only[F8,Rd]
     refine⟨_,[],rfl,⟨_,cap,by rw[x1],by omega,?_⟩,rfl⟩;by_cases h0:len=0
     ·omega
     right
     obtain⟨y0,_,ds0,d0,d1,_⟩:=each 0 (by omega);have hn0:0<(lZ q').n:=by
      rw[d0.symm];have hz:elems[0]? =some (elems[0]'(by omega)):=AM4 _;have h1:=SE 0 (by omega);rw[hz,ANU]at h1;obtain⟨ds,hds,htr⟩:=h1;obtain⟨z,z1,z2⟩:=j9 n hq' htr;grind[uD]
     have hc0:=d1 0 (by omega);simp only[Nat.zero_mul,ABZ]at hc0;have v7:w.cell? a=some (ds0[0]'(by omega)):=by simp_all
     have hsp:=AB7 v7;obtain⟨b,o,s⟩:=a;simp only at hsp;subst hsp;refine⟨b,o,rfl,?_,fun i y hy=> ?_⟩
     ·grind[World.cell?,Array.getElem?_eq_some_iff]
     ·have hil:=(ANF.1 hy).1
      obtain⟨_,ds,e0,e1,e2⟩:=x2 i y hy;have hcn:P.cellsOf e=(lZ q').n:=by
       have hz:elems[i]? =some (elems[i]'(by omega)):=AM4 _;have h1:=SE i (by omega);rw[hz,ANU]at h1;obtain⟨ds,hds,htr⟩:=h1;obtain⟨z,z1,z2⟩:=j9 n hq' htr;grind[uD]
      refine⟨ds,e0,fun j v hj=> ?_,e2⟩;grind[List.getElem?_eq_some_iff,Addr.add_eq]
    ·obtain⟨i,hi,rfl⟩:=ASe hy
     exact(x2 i _ (AM4 hi)).1
  ·rename_i fs hu
   split at h
   case h_2=>cases h
   rename_i l hl;split at h
   case isFalse=>cases h
   rename_i Zi;cases h;obtain⟨xs,m,_,_,hlen,hxs,SE⟩:=DataW.trod_struct hu hx;have key:∀(fs:List Field) (o:Nat) (l:List Ty) (i0:Nat),wR (rowOf P n) P.cellsOf o fs=some l→cs.length=o+l.length→(∀(i:Nat) (f:Field),fs[i]? =some f→ ∃z,DataW.trod enc P w 0 spare held m f.type ((cs.drop f.offset).take (P.cellsOf f.type))=some z)→
     ∃y:(F8 l).D,Rd w (fun b=>b<w.heap.size) (F8 l) (cs.drop o) y∧Vd (F8 l) y:=by
    intro fs
    induction fs with
    |nil=>
     intro o l i0 hl hc _;simp only[wR,ANB]at hl;subst hl;refine⟨(),?_,trivial⟩;simp only[F8,Rd];simp_all
    |cons f fs ih=>
     intro o l i0 hl hc SE;simp only[wR]at hl;split at hl
     case h_2=>cases hl
     rename_i l1 b1 hr;split at hl
     case isFalse=>cases hl
     rename_i hof;simp only[AND]at hl;obtain⟨l2,vE,rfl⟩:=hl;obtain⟨z,hz⟩:=SE 0 f rfl;obtain⟨y1,a1,a2⟩:=j9 n hr hz;obtain⟨y2,b1,b2⟩:=ih (o+l1.length) l2 0 vE (by grind) (fun i f hf=>SE (i+1) f (by simp_all));grind[so,List.drop_drop,List.take_append_drop]
   have:=key fs.toList 0 l 0 hl (by omega) (fun i f hf=>by
    grind)
   simp_all
  simp_all
end
end Go.Fw
end
section
open Go.RowKit
namespace Go.Fw
def tO(W:World):Env:={ IE:=fun _=>0,IF:=fun _=> .nilFunc,T:=fun b=>b<W.heap.size,S:=fun b=>b<W.heap.size }
abbrev pX:A6:=⟨[(0,.c (.v .bool))],[]⟩
theorem ABH{P:Program}{f:Nat}{D2:List (Nat×XP)}{g:A6.V ⟨D2,[]⟩→Option pX.V}(hs:YK P f ⟨⟨D2,[]⟩,pX,g⟩){W:World}{args:Array Value}(x:G9.V D2)(hlen:args.size=D2.length)
  (hx:Oy (tO W) W [] id D2 x args.toList) (hg:g (x,())=some ((true,()),())):Calls P f args W fun e W' =>e= .returned (.bool true)∧Below W.heap.size W W':=by
 obtain⟨_,_,h⟩:=hs;refine(h (tO W) W (x,()) args _ hlen ⟨[],⟨rfl,fun k B F h=>by simp_all⟩,by simp,by simp,by simp,fun _ h=>h,fun _ h=>h⟩ hx hg).mono fun e W' hR=> ?_
 obtain⟨v,E',rfl,base,_,⟨⟨v',hv,hxr⟩,_⟩,_⟩:=hR;simp at hv;subst hv;have:v= .bool true:=by
  have h2:VR E' W' [] (.v .bool true) v:=hxr;exact SK h2
 subst this;exact⟨rfl,base.os,base.tape,base.output,base.size,fun k hk=>base.heap k hk⟩
theorem AKL{W:World}{vw:List Bx}{s:Bool}{r:Ty}{v:Value}{y:List r.D}(h:Rd W (fun b=>b<W.heap.size) (.sl r) [v] y):XR (tO W) W vw (XP.mk id (.c (.sl s r)) y) v:=by
 show Rd W (if s then _ else _) (.sl r) [v] y
 cases s<;>exact h
end Go.Fw
end
section
namespace Go.Fw
def Ps:List (Nat×QJ)→Nat→Option QJ
 |[],_=>none
 |(f,c)::l,g=>if f=g then some c else Ps l g
def AHJ(P:Program):List (Nat×QJ)→Prop
 |[]=>True
 |q::l=>YK P q.1 q.2∧AHJ P l
theorem pK{P:Program}:∀{l:List (Nat×QJ)},AHJ P l→gj P (Ps l)
 |[],_=>fun f c e=>by cases e
 |(g,d)::l,h=>fun f c e=>by
  simp only[Ps]at e;split at e
  ·rename_i hg
   cases e;subst hg;exact h.1
  ·exact pK h.2 f c e
theorem Xk{P:Program}{f:Nat}{fn:Func}(hf:P.funcs[f]? =some fn)(hn:(fn.name== "runtime.NumGoroutine")=false)(hb:fn.body.isNone=false)(args:Array Value)(w:World):
  (callFunc f args).run P w= .ok (.enter f args) w:=by
 have h1:fn.name≠ "runtime.NumGoroutine" :=by simp_all
 have h2:fn.body≠none:=by
  grind
 simp[callFunc,hf,h1,h2]
def im(fn:Func)(c:QJ):Bool:=
 !(
  fn.name== "runtime.NumGoroutine")&& !fn.body.isNone&&c.ok&&decide (c.ins.D2.length≤fn.ntmps)&&(match fn.body with
  |some code=>decide (labels code).Nodup
  |none=>true)
theorem AaC{P:Program}{f:Nat}{fn:Func}{c:QJ}(hf:P.funcs[f]? =some fn)(h:im fn c=true):AWO P f fn c:=by
 simp only[im,ANN,AS2,AOH]at h;obtain⟨⟨⟨⟨h1,h2⟩,h3⟩,h4⟩,h5⟩:=h;refine⟨hf,Xk hf h1 h2,h3,h4,fun code hc=> ?_⟩;simp_all
def iM(C:Z1)(c:QJ)(fn:Func)(J:Nat→Nat→St→Option c.outs.V):List Nat→Prop
 |[]=>True
 | ℓ ::l=>(∃(s:A6) (F:Nat→s.V→Option c.outs.V),(∀n,J n ℓ =jump c.ins.G6.length s (F n))∧(∀v,F 0 v=none)∧
  ∀n v,∀ω,Hi C c fn (J n) ℓ ω (s.st fn.ntmps v)=F (n+1) v)∧iM C c fn J l
theorem iM.ok{C:Z1}{c:QJ}{fn:Func}{J:Nat→Nat→St→Option c.outs.V}:∀{l:ABG},iM C c fn J l→ ∀ ℓ ∈l,∃(s:A6) (F:Nat→s.V→Option c.outs.V),(∀n,J n ℓ =jump c.ins.G6.length s (F n))∧(∀v,F 0 v=none)∧
  ∀n v y,F (n+1) v=some y→ ∀ω,Hi C c fn (J n) ℓ ω (s.st fn.ntmps v)=some y
 |[],_,ℓ,h=>by cases h
 |k::l,hl,ℓ,h=>by
  rcases ARi.1 h with rfl|h
  ·obtain⟨⟨s,F,h1,h2,h3⟩,_⟩:=hl
   exact⟨s,F,h1,h2,fun n v y e ω=>(h3 n v ω).trans e⟩
  ·exact iM.ok hl.2 ℓ h
def iq(fn:Func):ABG:=
 match fn.body with
 |some code=>labels code
 |none=>[]
def B3:List AFk→Nat→List Nat
 |[],_=>[]
 |(r,h)::l,q=>if r=q then h else B3 l q
theorem AFX{P:Program}{T:J8}{l:List (Nat×QJ)}{hint:Nat→List Nat}{f:Nat}{fn:Func}{c:QJ}(hT:Ei P T)(hm:P.follows .mixedOrders=true)(hf:P.funcs[f]? =some fn)(hl:AHJ P l)(hc:im fn c=true)
  {J:Nat→Nat→St→Option c.outs.V} {L:ABG} (hL:iq fn=L) (hJ:iM ⟨T,Ps l,hint⟩ c fn J L) (n:Nat) (he:∀ω v,Ci ⟨T,Ps l,hint⟩ c fn (J n) ω v=c.g v):YK P f c:=
 ADI (C:=⟨T,Ps l,hint⟩) hT (pK hl) hm (AaC hf hc) (J:=J) (fun code hb ℓ hℓ =>iM.ok hJ ℓ (by
  grind[iq])) fun v u hg=>⟨n,fun ω=>(he ω v).trans hg⟩
end Go.Fw
end
section
namespace Go.M
abbrev C7:Nat:=Go.Fw.C7
def AS(x:Int):Int:=IntKind.wrap .i64 x
def dS(κ:IntKind)(a b:Int):Int:=κ.wrap (BitVec.ofInt κ.bits a &&& BitVec.ofInt κ.bits b).toNat
def bOr(κ:IntKind)(a b:Int):Int:=κ.wrap (BitVec.ofInt κ.bits a ||| BitVec.ofInt κ.bits b).toNat
def AOU(κ:IntKind)(a b:Int):Int:=κ.wrap (BitVec.ofInt κ.bits a ^^^ BitVec.ofInt κ.bits b).toNat
theorem og:∃n:Nat,2^64≤n:=⟨_,AQQ _⟩
noncomputable def AX:Nat:=Classical.choose og
theorem fJ:2^64≤AX:=Classical.choose_spec og
def vX{α:Type}(p:Int)(v l:List α):Option (List α):=if 0≤p∧p≤(l.length:Int)∧l.length+v.length≤C7 then some (l.take p.toNat++v++l.drop p.toNat)else none
def AFb{α:Type}(p q:Int)(l:List α):Option (List α):=if 0≤p∧p≤q∧q≤(l.length:Int)then some (l.take p.toNat++l.drop q.toNat)else none
end Go.M
end
section
namespace Go.Fw
structure SP (P:Program) where
 f:Nat
 c:QJ
 h:YK P f c
def SP.l{P:Program}:List (SP P)→List (Nat×QJ)
 |[]=>[]
 |s::l=>(s.f,s.c)::SP.l l
theorem zL{P:Program}:∀l:List (SP P),AHJ P (SP.l l)
 |[]=>trivial
 |s::l=>⟨s.h,zL l⟩
@[reducible] def AP.Cu (R:Type):AP→Type
 | .q7 _ rs=>aA rs→R
 | .v t=>t.D→R
 | .sl _ r=>List r.D→R
 | .nV r=>r.D→R
 | .lC _ _=>Nat×Nat→R
 |_=>R
def AP.un{R:Type}:(p:AP)→p.Cu R→p.V→R
 | .q7 _ _,f,x=>f x
 | .v _,f,x=>f x
 | .sl _ _,f,x=>f x
 | .nV _,f,x=>f x
 | .lC _ _,f,x=>f x
 | .nil,f,_=>f
 | .ref _,f,_=>f
 | .ptr _ _,f,_=>f
 | .fn _ _,f,_=>f
 | .any,f,_=>f
@[reducible] def Yk.Cu (R:Type):List AP→Type
 |[]=>R
 |p::l=>p.Cu (Yk.Cu R l)
def Yk.un{R:Type}:(l:List AP)→Yk.Cu R l→Yk.V l→R
 |[],f,_=>f
 |p::l,f,x=>Yk.un l (p.un f x.1) x.2
@[reducible] def Yq.Cu (R:Type):List (AP ⊕ List AP)→Type
 |[]=>R
 | .inl p::l=>p.Cu (Yq.Cu R l)
 | .inr q::l=>Yk.Cu (Yq.Cu R l) q
def Yq.un{R:Type}:(l:List (AP ⊕ List AP))→Yq.Cu R l→Yq.V l→R
 |[],f,_=>f
 | .inl p::l,f,x=>Yq.un l (p.un f x.1) x.2
 | .inr q::l,f,x=>Yq.un l (Yk.un q f x.1) x.2
@[reducible] def XP.Cu (R:Type):XP→Type
 | .c p=>p.Cu R
 | .agg l=>Yk.Cu R l
 | .row r=>r.D→R
 | .M3 l=>Yq.Cu R l
def XP.un{R:Type}:(p:XP)→p.Cu R→p.V→R
 | .c p,f,x=>p.un f x
 | .agg l,f,x=>Yk.un l f x
 | .row _,f,x=>f x
 | .M3 l,f,x=>Yq.un l f x
@[reducible] def BP.Cu (R:Type):BP→Type
 | .mem l=>Yk.Cu R l
 | .sl _ r=>List r.D→R
 | .gone=>R
def BP.un{R:Type}:(p:BP)→p.Cu R→p.V→R
 | .mem l,f,x=>Yk.un l f x
 | .sl _ _,f,x=>f x
 | .gone,f,_=>f
@[reducible] def G9.Cu (R:Type):List (Nat×XP)→Type
 |[]=>R
 |(_,p)::l=>p.Cu (G9.Cu R l)
def G9.un{R:Type}:(l:List (Nat×XP))→G9.Cu R l→G9.V l→R
 |[],f,_=>f
 |(_,p)::l,f,x=>G9.un l (p.un f x.1) x.2
@[reducible] def J6.Cu (R:Type):List BP→Type
 |[]=>R
 |p::l=>p.Cu (J6.Cu R l)
def J6.un{R:Type}:(l:List BP)→J6.Cu R l→J6.V l→R
 |[],f,_=>f
 |p::l,f,x=>J6.un l (p.un f x.1) x.2
@[reducible] def A6.Cu (s:A6) (R:Type):Type:=G9.Cu (J6.Cu R s.G6) s.D2
def A6.un{R:Type}(s:A6)(f:s.Cu R)(v:s.V):R:=J6.un s.G6 (G9.un s.D2 f v.1) v.2
structure Lp (o:A6) where
 ℓ :Nat
 s:A6
 F:Nat→s.Cu (Option o.V)
def K_{o:A6}(nb:Nat):List (Lp o)→Nat→Nat→St→Option o.V
 |[],_,_,_=>none
 |p::l,n,ℓ,σ=>if ℓ =p.ℓ then jump nb p.s (p.s.un (p.F n)) σ else K_ nb l n ℓ σ
inductive Xo (C:Z1) (c:QJ) (fn:Func) (J:Nat→Nat→St→Option c.outs.V):List (Lp c.outs)→Prop
 |nil:Xo C c fn J []
 |cons {ℓ :Nat} {s:A6} {F:Nat→s.Cu (Option c.outs.V)} {l:List (Lp c.outs)} (h0:∀v,s.un (F 0) v=none) (h1:∀n v ω,Hi C c fn (J n) ℓ ω (s.st fn.ntmps v)=s.un (F (n+1)) v) (h:Xo C c fn J l):Xo C c fn J (⟨ℓ,s,F⟩::l)
def Lp.ls{o:A6}:List (Lp o)→List Nat
 |[]=>[]
 |p::l=>p.ℓ ::Lp.ls l
theorem ACx{o:A6}{nb:Nat}:∀{l:List (Lp o)} (n:Nat) {ℓ :Nat} (p:Lp o) (pre:List (Lp o)),ℓ =p.ℓ →(Lp.ls (pre++p::l)).Nodup→K_ nb (pre++p::l) n ℓ =jump nb p.s (p.s.un (p.F n))
 |l,n,ℓ,p,[],e,_=>by
  funext σ
  simp[K_,e]
 |l,n,ℓ,p,q::pre,e,hn=>by
  funext σ
  have hq: ℓ ≠q.ℓ :=by
   intro h;simp only[AS0,Lp.ls,AVi]at hn;refine hn.1 ?_
   rw[←h,e];clear hn h e
   induction pre with
   |nil=>simp[Lp.ls]
   |cons a m ih=>simp[Lp.ls,ih]
  have:=congrFun (ACx (nb:=nb) (l:=l) n p pre e (by grind[Lp.ls,List.nodup_cons])) σ;simp only[AS0,K_,AM2 hq];omega
theorem Xo.ok{C:Z1}{c:QJ}{fn:Func}{nb:Nat}(hb:nb=c.ins.G6.length){L:List (Lp c.outs)}(hn:(Lp.ls L).Nodup):∀{l pre:List (Lp c.outs)},L=pre++l→Xo C c fn (K_ nb L) l→iM C c fn (K_ nb L) (Lp.ls l)
 |[],_,_,_=>trivial
 |⟨ℓ,s,F⟩::l,pre,e,.cons h0 h1 h=>by
  refine⟨⟨s,fun n=>s.un (F n),fun n=> ?_,h0,fun n v ω=>h1 n v ω⟩,Xo.ok hb hn (pre:=pre++[⟨ℓ,s,F⟩]) (by simp[e]) h⟩;subst hb;rw[e];exact ACx n ⟨ℓ,s,F⟩ pre rfl (by simp_all)
def mkP{P:Program}{T:J8}(hT:Ei P T)(hm:P.follows .mixedOrders=true){f:Nat}{fn:Func}(hf:P.funcs[f]? =some fn)(i o:A6)(g:i.Cu (Option o.V))(l:List (SP P))(h:List AFk)(L:List (Lp o))(n:Nat)
  (hL:iq fn=Lp.ls L) (hd:decide (Lp.ls L).Nodup=true) (hc:im fn ⟨i,o,i.un g⟩=true)
  (hJ:Xo ⟨T,Ps (SP.l l),B3 h⟩ ⟨i,o,i.un g⟩ fn (K_ i.G6.length L) L)
  (he:∀ω v,Ci ⟨T,Ps (SP.l l),B3 h⟩ ⟨i,o,i.un g⟩ fn (K_ i.G6.length L n) ω v=i.un g v):SP P:=
 ⟨f,⟨i,o,i.un g⟩,AFX (l:=SP.l l) hT hm hf (zL l) hc (J:=K_ i.G6.length L) (L:=Lp.ls L) hL (Xo.ok rfl (by simp_all) (pre:=[]) rfl hJ) n he⟩
theorem AF{Q:List Bool→Prop}(a:Q [])(b:∀ω,Q (false::ω))(d:∀ω,Q (true::ω)):∀ω,Q ω
 |[]=>a
 |false::ω=>b ω
 |true::ω=>d ω
end Go.Fw
end
section
namespace Go.Fw
open Go.Proofs Go.Shelf Go.RowKit Go.Lib
structure eU (P:Program) (ρ:Ren) (nm:String) (fv:Func):Prop where
 mixed:P.follows .mixedOrders=true
 f22:P.funcs[ρ.f 22]? =some { Body2.n22 ρ with name:=nm }
 n22:(nm== "runtime.NumGoroutine")=false
 f29:P.funcs[ρ.f 29]? =some fv
 n29:(fv.name== "runtime.NumGoroutine")=false
 b29:fv.body.isNone=true
 e29:Extern.findNext fv=none
 x29:Extern.find fv=some (Extern.SlicesOverlaps.overlaps #[(ρ.t 24),(ρ.t 24)] #[(ρ.t 4)])
 t0:P.underlying (ρ.t 0)=some (TypeDesc.tuple #[])
 a0:∀w,(isAgg (ρ.t 0)).run P w= .ok false w
 z0:∀w,(Go.sizeOf (ρ.t 0)).run P w= .ok 1 w
 v0:∀w,(zeroValue (ρ.t 0)).run P w= .ok (Value.tuple #[]) w
 t3:P.underlying (ρ.t 3)=some (TypeDesc.int IntKind.i64)
 a3:∀w,(isAgg (ρ.t 3)).run P w= .ok false w
 z3:∀w,(Go.sizeOf (ρ.t 3)).run P w= .ok 1 w
 v3:∀w,(zeroValue (ρ.t 3)).run P w= .ok (Value.int IntKind.i64 0) w
 t4:P.underlying (ρ.t 4)=some (TypeDesc.bool)
 a4:∀w,(isAgg (ρ.t 4)).run P w= .ok false w
 z4:∀w,(Go.sizeOf (ρ.t 4)).run P w= .ok 1 w
 v4:∀w,(zeroValue (ρ.t 4)).run P w= .ok (Value.bool false) w
 t24:P.underlying (ρ.t 24)=some (TypeDesc.slice (ρ.t 9))
 a24:∀w,(isAgg (ρ.t 24)).run P w= .ok false w
 z24:∀w,(Go.sizeOf (ρ.t 24)).run P w= .ok 1 w
 v24:∀w,(zeroValue (ρ.t 24)).run P w= .ok (Value.slice none 0 0) w
section
variable{P:Program} {ρ:Ren} {nm:String} {fv:Func}
theorem bf{w:World}{dT sT ty elem:TypeId}{i0:TypeInfo}{b o ATx AYF WA j_ n:Nat}{a:Option Addr}{cs:List Value}(hu:P.underlying dT=some (.slice elem))(hi:P.info? elem=some i0)(hn:n=Nat.min WA ATx)
  (AN1:∀W:World,W=w→(Builtin.firstCells i0.size n (.slice a WA j_)).run P W= .ok cs.toArray W) (oq:w.there b o cs.length) (h1:∀v∈cs,v.oneCell' =true):
  (Builtin.copy_ #[dT,sT] ty #[.slice (some ⟨b,o,none⟩) ATx AYF,.slice a WA j_]).run P w= .ok (goInt n) (w.setCells b o cs):=by
 have rA:=run_storeCells_cells (P:=P) b o cs 0 w (by simpa using fun j hj=>(oq j hj).1) (by simpa using fun j hj=>(oq j hj).2) h1;rw[ATG]at rA;have:=AN1 w rfl;simp[Builtin.copy_,run_underlying hu,Builtin.lenOf,sizeOf,typeInfo,hi,←hn,this,rA]
set_option maxHeartbeats 4000000 in
set_option maxRecDepth 100000 in
theorem ADk(L:eU P ρ nm fv){k:Nat}(z9:∀w,(Go.sizeOf (ρ.t 9)).run P w= .ok k w)(ad:Option Addr)(n c i:Nat)(va:Option Addr)(vc:Nat)(w:World)(hi:i≤n)(hnc:n≤c):
  Calls P (ρ.f 22) #[.slice ad n c,.int .i64 i,.slice va 0 vc] w fun e w' =>e= .returned (.slice ad n c)∧w' =w:=by
 have t0:=L.t0;have a0:=L.a0;have z0:=L.z0;have v0:=L.v0;have t3:=L.t3;have a3:=L.a3;have z3:=L.z3;have v3:=L.v3;have t4:=L.t4;have a4:=L.a4;have z4:=L.z4;have v4:=L.v4;have t24:=L.t24;have a24:=L.a24;have z24:=L.z24;have v24:=L.v24;have u0:=run_underlying L.t0;have u3:=run_underlying L.t3;have u4:=run_underlying L.t4;have It:=run_underlying L.t24;have mixed:=L.mixed
 go_enter L.f22,Body2.n22_ntmps ρ
 cases ad with
 |none=>
  go_wp2
  go_ret
  exact⟨rfl,rfl⟩
 |some a=>
  obtain⟨ab,ao,asp⟩:=a
  go_wp2
  all_goals (go_ret;exact⟨rfl,rfl⟩)
theorem k_{w:World}(tS tR e:TypeId)(ht:P.underlying tS=some (.slice e))(size:Nat)(hz:∀w,(Go.sizeOf e).run P w= .ok size w)
  (a b:Addr) (la ca lb cb:Nat) (ea:a.block≠b.block) (tA tB:TypeId) (kA kB:Nat)
  (hsa:w.shape? a.block=some (tA,kA)) (hsb:w.shape? b.block=some (tB,kB)) (hkA:kA≠0)
  (hfb:w.frozen? b=false) (hfe:w.frozen? { block:=b.block,off:=kB }=false):
  (Extern.SlicesOverlaps.overlaps #[tS,tS] #[tR] #[.slice (some a) la ca,.slice (some b) lb cb]).run P w= .ok (.bool false) w:=by
 have q9:(a.block !=b.block)=true:=by simp_all
 have AbM:(a.block==b.block)=false:=by simp_all
 change Sem.run P (α:=Value) (do
  let some t:=(#[tS,tS]:Array TypeId)[0]?|stuck "slices.overlaps: no parameter types"
  let .slice elem←underlying t|stuck "slices.overlaps: slice type expected"
  let size←sizeOf elem
  match(some a:Option Addr),(some b:Option Addr)with
  |some a,some b=>
   if la=0∨lb=0∨size=0 then pure (Value.bool false)
   else if a.block !=b.block&&(←frozen a)&&(←frozen b)then unsupported .addressObserved
   else do
    if a.block !=b.block then do
     noView a;noView b
     if←mayBeOne a b then return Value.bool ((←choose (.extern "sameAddr.stringBytes" 2))==1)
    pure (Value.bool (a.block==b.block&&a.off<b.off+lb*size&&b.off<a.off+la*size))
  |_,_=>pure (Value.bool false)) w=_
 by_cases h0:la=0∨lb=0∨size=0
 ·simp[run_underlying ht,hz,h0]
 ·cases kA with
  |zero=>omega
  |succ kA=>
   cases hfa:w.frozen? a<;>cases hfae:w.frozen? { block:=a.block,off:=kA+1 }<;>
    simp[run_underlying ht,hz,h0,q9,AbM,frozen,noView,viewAt,mayBeOne,stringish,shape,Sem.run,hsa,hsb,hfb,hfe,hfa,hfae]
set_option maxHeartbeats 4000000 in
set_option maxRecDepth 100000 in
theorem AB1(L:eU P ρ nm fv){i0:TypeInfo}(vB:P.info? (ρ.t 9)=some i0)(hs0:0<i0.size)(b off n c i:Nat)(va:Addr)(m vc:Nat)(cs vs:List Value)(w:World)(hi:i<n)(hm:0<m)(Ts:n+m≤c)(Ym:n+m≤C7)(hvb:va.block≠b)
  (Zi:cs.length=n*i0.size) (hvl:vs.length=m*i0.size) (v7:BX w b off cs) (oq:w.there b off ((n+m)*i0.size))
  (Wl:∀W:World,W.heap[va.block]? =w.heap[va.block]?→(Builtin.firstCells i0.size m (.slice (some va) m vc)).run P W= .ok vs.toArray W) (h1c:∀v∈cs,v.oneCell' =true) (h1v:∀v∈vs,v.oneCell' =true)
  (tA tB:TypeId) (kA kB:Nat) (hsa:w.shape? va.block=some (tA,kA)) (hsb:w.shape? b=some (tB,kB)) (hkA:kA≠0) (hfe:w.frozen? ⟨b,kB,none⟩=false):
  Calls P (ρ.f 22) #[.slice (some ⟨b,off,none⟩) n c,.int .i64 i,.slice (some va) m vc] w fun e w' =>
   e= .returned (.slice (some ⟨b,off,none⟩) (n+m) c)∧ ∃W:World,W.heap=w.heap∧Grown w W∧w' =(W.setCells b (off+(i+m)*i0.size) (cs.drop (i*i0.size))).setCells b (off+i*i0.size) vs:=by
 have t0:=L.t0;have a0:=L.a0;have z0:=L.z0;have v0:=L.v0;have t3:=L.t3;have a3:=L.a3;have z3:=L.z3;have v3:=L.v3;have t4:=L.t4;have a4:=L.a4;have z4:=L.z4;have v4:=L.v4;have t24:=L.t24;have a24:=L.a24;have z24:=L.z24;have v24:=L.v24;have u0:=run_underlying L.t0;have u3:=run_underlying L.t3;have u4:=run_underlying L.t4;have It:=run_underlying L.t24;have z9:∀w,(Go.sizeOf (ρ.t 9)).run P w= .ok i0.size w:=fun w=>by simp[sizeOf,typeInfo,vB]
 have mixed:=L.mixed;have ADV:=Ym;simp only[C7]at ADV;have hz1: ¬((m:Int)=0):=by omega
 have hz2: ¬((i:Int)=(n:Int)):=by omega
 generalize hk:i0.size=k at*
 have hmul:(i+m)*k≤(n+m)*k:=APC _ (by omega);have AFP:i*k≤n*k:=APC _ (by omega);have G4:(i+m)*k<(n+m)*k:=Nat.mul_lt_mul_of_pos_right (by omega) hs0;have hnm:(n+m)*k=n*k+m*k:=ASz ..;have him:(i+m)*k=i*k+m*k:=ASz ..;have hov:∀lb cb,(callFunc (ρ.f 29) #[.slice (some va) m vc,.slice (some ⟨b,off+(i+m)*k,none⟩) lb cb]).run P w= .ok (.value (.bool false)) w:=fun lb cb=>by
  rw[run_callFunc_extern L.f29 L.n29 L.b29 L.e29 L.x29,
   k_ (ρ.t 24) (ρ.t 4) (ρ.t 9) L.t24 k z9 va ⟨b,off+(i+m)*k,none⟩ m vc lb cb hvb tA tB kA kB hsa hsb hkA (oq _ G4).2 hfe]
  rfl
 have yd:(cs.drop (i*k)).length=(n-i)*k:=by rw[AT9,Zi,AU5]
 have hw1:IntKind.i64.wrap ((i:Int)+(m:Int))=(i:Int)+(m:Int):=by rw[IntKind.wrap_i64];omega
 have hb1:(0:Int)≤(i:Int)+(m:Int):=by omega
 have Te:i≤n:=by omega
 have htn:((i:Int)+(m:Int)).toNat=i+m:=by omega
 have hb2: ¬(c=i+m):=by omega
 have hb3:(i:Int)≤(n:Int)+(m:Int):=by omega
 have hb4: ¬(c=i):=by omega
 have AUy:∀ty dc sc,(Builtin.copy_ #[(ρ.t 24),(ρ.t 24)] ty #[.slice (some ⟨b,off+(i+m)*k,none⟩) (n+m-(i+m)) dc,.slice (some ⟨b,off+i*k,none⟩) (n+m-i) sc]).run P w.drew= .ok (goInt (n-i:Nat)) (w.drew.setCells b (off+(i+m)*k) (cs.drop (i*k))):=fun ty dc sc=>
  bf (n:=n-i) L.t24 vB (by simp only[Nat.min_def];split<;>omega) (fun W hW=>by
   subst hW;simp only[Builtin.firstCells,hk];have hl:BX w.drew b (off+i*k) (cs.drop (i*k)):=fun j v hj=>by
    rw[AVE]at hj;have:=v7 _ v hj
    rwa [←ATC]at this
   rw[←yd];exact MQ hl) (fun j hj=>by
    rw[yd]at hj;have:(i+m)*k+j<(n+m)*k:=by
     rw[hnm,him];have:(n-i)*k=n*k-i*k:=AU5 ..;omega
    have:=oq _ this;rw[←ATC]at this;exact this) (fun v hv=>h1c v (ATI hv))
 obtain⟨W1,hW1⟩:∃W1,W1=w.drew.setCells b (off+(i+m)*k) (cs.drop (i*k)):=⟨_,rfl⟩;have AaE:W1.heap[va.block]? =w.heap[va.block]?:=by rw[hW1];exact DR _ _ _ _ _ hvb
 have ARl:W1.there b (off+i*k) vs.length:=fun j hj=>by
  rw[hvl]at hj;have h0:=oq (i*k+j) (by omega);rw[←ATC]at h0;rw[hW1];refine⟨?_,?_⟩
  ·refine isSome_setCells b _ _ _ (fun t ht=> ?_) _ h0.1
   rw[yd]at ht;have h2:(i+m)*k+t<(n+m)*k:=by
    rw[hnm,him];have:(n-i)*k=n*k-i*k:=AU5 ..;omega
   have:=(oq _ h2).1;rw[←ATC]at this;exact this
  ·rw[World.frozen?_setCells]
   exact h0.2
 have AYf:∀(W:World),(∀x,W.cell? x=W1.cell? x)→(∀x,W.frozen? x=W1.frozen? x)→W.heap=W1.heap→ ∀ty dc,(Builtin.copy_ #[(ρ.t 24),(ρ.t 24)] ty #[.slice (some ⟨b,off+i*k,none⟩) (n+m-i) dc,.slice (some va) m vc]).run P W= .ok (goInt m) (W.setCells b (off+i*k) vs):=fun W hWc hWf sx ty dc=>
  bf (n:=m) L.t24 vB (by simp only[Nat.min_def];split<;>omega) (fun V hV=>by subst hV;rw[hk];exact Wl _ (by rw[sx];exact AaE)) (fun j hj=>⟨by rw[hWc];exact(ARl j hj).1,by rw[hWf];exact(ARl j hj).2⟩) h1v
 rw[←hW1]at AUy;obtain⟨vab,vao,vas⟩:=va;clear hmul AFP G4 hnm him oq ARl v7 yd
 go_enter L.f22,Body2.n22_ntmps ρ
 go_wp2_with (simp only[hov])
 go_region_law_o (refine step_copy_runI rfl _ _ (ρ.t 24) (ρ.t 24) rfl _ _ (by simp[Act.eval,Act.put]) (by simp[Act.eval,Act.put]) (AUy _ _ _) ?_)
 go_wp2_with (at_builtin;refine wpList_copy_runI _ rfl _ _ (ρ.t 24) (ρ.t 24) rfl _ _ rfl rfl (AYf _ (fun _=>rfl) (fun _=>rfl) rfl _ _) ?_)
 go_ret
 first|exact⟨rfl,_,rfl,⟨rfl,rfl,rfl,AQQ _⟩,rfl⟩|exact⟨rfl,w.drew,rfl,⟨rfl,rfl,rfl,AQQ _⟩,by first|rfl|rw[hW1]⟩
set_option maxHeartbeats 4000000 in
set_option maxRecDepth 100000 in
theorem AE9(L:eU P ρ nm fv){i0:TypeInfo}(vB:P.info? (ρ.t 9)=some i0)(b off n c:Nat)(va:Addr)(m vc:Nat)(vs:List Value)(w:World)(hm:0<m)(Ts:n+m≤c)
  (oq:w.there b (off+n*i0.size) vs.length) (hn:kN P w i0.size m (.slice (some va) m vc) vs) (h1v:∀v∈vs,v.oneCell' =true):
  Calls P (ρ.f 22) #[.slice (some ⟨b,off,none⟩) n c,.int .i64 n,.slice (some va) m vc] w fun e w' =>
   e= .returned (.slice (some ⟨b,off,none⟩) (n+m) c)∧w' =w.setCells b (off+n*i0.size) vs:=by
 have t0:=L.t0;have a0:=L.a0;have z0:=L.z0;have v0:=L.v0;have t3:=L.t3;have a3:=L.a3;have z3:=L.z3;have v3:=L.v3;have t4:=L.t4;have a4:=L.a4;have z4:=L.z4;have v4:=L.v4;have t24:=L.t24;have a24:=L.a24;have z24:=L.z24;have v24:=L.v24;have u0:=run_underlying L.t0;have u3:=run_underlying L.t3;have u4:=run_underlying L.t4;have It:=run_underlying L.t24;have z9:∀w,(Go.sizeOf (ρ.t 9)).run P w= .ok i0.size w:=fun w=>by simp[sizeOf,typeInfo,vB]
 have mixed:=L.mixed;have hz1: ¬((m:Int)=0):=by omega
 have kZ:∀ty,(Builtin.append_ #[(ρ.t 24),(ρ.t 24)] ty #[.slice (some ⟨b,off,none⟩) n c,.slice (some va) m vc]).run P w=_:=fun ty=>
  gC (ts:= #[(ρ.t 24),(ρ.t 24)]) (ty:=ty) rfl rfl L.t24 (.inl ⟨_,L.t24⟩) vB rfl hn Ts oq h1v
 clear oq hn
 generalize hk:i0.size=k at*
 obtain⟨vab,vao,vas⟩:=va
 go_enter L.f22,Body2.n22_ntmps ρ
 go_wp2_with (at_builtin;refine Lib.wpList_append_run _ rfl _ _ (ρ.t 24) (ρ.t 24) rfl _ _ rfl rfl _ _ (kZ _) ?_)
 go_ret
 exact⟨rfl,rfl⟩
set_option maxHeartbeats 4000000 in
set_option maxRecDepth 100000 in
theorem AEJ(L:eU P ρ nm fv){i0:TypeInfo}{z:Value}(vB:P.info? (ρ.t 9)=some i0)(hz:i0.zero=some z)(hby:i0.bytes≤512)(ad:Option Addr)(n c:Nat)(va:Addr)(m vc:Nat)(cs vs:List Value)(w:World)(hm:0<m)(hnc:n≤c)(Ts:c<n+m)(Ym:n+m≤C7)
  (ho:∀w',w'.heap=w.heap→(Builtin.firstCells i0.size n (.slice ad n c)).run P w' = .ok cs.toArray w') (hn:kN P w i0.size m (.slice (some va) m vc) vs):
  Calls P (ρ.f 22) #[.slice ad n c,.int .i64 n,.slice (some va) m vc] w fun e w' =>
   e= .returned (.slice (some ⟨w.heap.size,0,none⟩) (n+m) (grownCap w (n+m) c (ρ.t 9)))∧
   w' =w.drew.alloc (.cells (cs.toArray++vs.toArray++Builtin.zeroCells z.cells (grownCap w (n+m) c (ρ.t 9)-(n+m))) (ρ.t 9)):=by
 have t0:=L.t0;have a0:=L.a0;have z0:=L.z0;have v0:=L.v0;have t3:=L.t3;have a3:=L.a3;have z3:=L.z3;have v3:=L.v3;have t4:=L.t4;have a4:=L.a4;have z4:=L.z4;have v4:=L.v4;have t24:=L.t24;have a24:=L.a24;have z24:=L.z24;have v24:=L.v24;have u0:=run_underlying L.t0;have u3:=run_underlying L.t3;have u4:=run_underlying L.t4;have It:=run_underlying L.t24;have z9:∀w,(Go.sizeOf (ρ.t 9)).run P w= .ok i0.size w:=fun w=>by simp[sizeOf,typeInfo,vB]
 have mixed:=L.mixed;have hz1: ¬((m:Int)=0):=by omega
 have kZ:∀ty,(Builtin.append_ #[(ρ.t 24),(ρ.t 24)] ty #[.slice ad n c,.slice (some va) m vc]).run P w=_:=fun ty=>
  cv (ts:= #[(ρ.t 24),(ρ.t 24)]) (ty:=ty) rfl rfl L.t24 (.inl ⟨_,L.t24⟩) vB hz rfl ho hn Ts Ym hby
 clear hn ho
 obtain⟨W1,hW1⟩:∃W1,W1=w.drew.alloc (.cells (cs.toArray++vs.toArray++Builtin.zeroCells z.cells (grownCap w (n+m) c (ρ.t 9)-(n+m))) (ρ.t 9)):=⟨_,rfl⟩;rw[←hW1]at kZ⊢;clear hW1
 generalize hk:i0.size=k at*
 obtain⟨vab,vao,vas⟩:=va
 go_enter L.f22,Body2.n22_ntmps ρ
 cases ad with
 |none=>
  go_wp2_with (at_builtin;refine Lib.wpList_append_run _ rfl _ _ (ρ.t 24) (ρ.t 24) rfl _ _ rfl rfl _ _ (kZ _) ?_)
  all_goals (go_ret;exact⟨rfl,rfl⟩)
 |some a=>
  obtain⟨ab,ao,asp⟩:=a
  go_wp2_with (at_builtin;refine Lib.wpList_append_run _ rfl _ _ (ρ.t 24) (ρ.t 24) rfl _ _ rfl rfl _ _ (kZ _) ?_)
  all_goals (go_ret;exact⟨rfl,rfl⟩)
set_option maxHeartbeats 4000000 in
set_option maxRecDepth 100000 in
theorem AJT(L:eU P ρ nm fv){i0:TypeInfo}{z:Value}(vB:P.info? (ρ.t 9)=some i0)(hz:i0.zero=some z)(hzl:z.cells.size=i0.size)(hs0:0<i0.size)(hby:i0.bytes≤512)(b off n c i:Nat)(va:Addr)(m vc:Nat)(cs vs:List Value)(w:World)(hi:i<n)(hm:0<m)(hnc:n≤c)(Ts:c<n+m)(Ym:n+m≤C7)
  (Zi:cs.length=n*i0.size) (hvl:vs.length=m*i0.size) (qT:b<w.heap.size) (v7:BX w b off cs) (hvw:va.block<w.heap.size)
  (Wl:∀W:World,W.heap[va.block]? =w.heap[va.block]?→(Builtin.firstCells i0.size m (.slice (some va) m vc)).run P W= .ok vs.toArray W) (h1c:∀v∈cs,v.oneCell' =true) (h1v:∀v∈vs,v.oneCell' =true):
  Calls P (ρ.f 22) #[.slice (some ⟨b,off,none⟩) n c,.int .i64 i,.slice (some va) m vc] w fun e w' =>
   e= .returned (.slice (some ⟨w.heap.size,0,none⟩) (n+m) (grownCap w (n+m) c (ρ.t 9)))∧
   ∃W:World,W.heap=w.heap.push (.cells ((cs.take (i*i0.size)).toArray++Builtin.zeroCells z.cells (n+m-i)++Builtin.zeroCells z.cells (grownCap w (n+m) c (ρ.t 9)-(n+m))) (ρ.t 9))∧W.os=w.os∧W.tape=w.tape∧W.output=w.output∧
    w' =(W.setCells w.heap.size (i*i0.size) vs).setCells w.heap.size ((i+m)*i0.size) (cs.drop (i*i0.size)):=by
 have t0:=L.t0;have a0:=L.a0;have z0:=L.z0;have v0:=L.v0;have t3:=L.t3;have a3:=L.a3;have z3:=L.z3;have v3:=L.v3;have t4:=L.t4;have a4:=L.a4;have z4:=L.z4;have v4:=L.v4;have t24:=L.t24;have a24:=L.a24;have z24:=L.z24;have v24:=L.v24;have u0:=run_underlying L.t0;have u3:=run_underlying L.t3;have u4:=run_underlying L.t4;have It:=run_underlying L.t24;have z9:∀w,(Go.sizeOf (ρ.t 9)).run P w= .ok i0.size w:=fun w=>by simp[sizeOf,typeInfo,vB]
 have mixed:=L.mixed;have ADV:=Ym;simp only[C7]at ADV;have hz1: ¬((m:Int)=0):=by omega
 have hz2: ¬((i:Int)=(n:Int)):=by omega
 have hz3:(c:Int)<(n:Int)+(m:Int):=by omega
 have hkk:(n:Int)+(m:Int)-(i:Int)=((n+m-i:Nat):Int):=by omega
 have hik:i+(n+m-i)=n+m:=by omega
 have AFP:i*i0.size≤n*i0.size:=APC _ (by omega);have hnm:(n+m)*i0.size=n*i0.size+m*i0.size:=ASz ..;have him:(i+m)*i0.size=i*i0.size+m*i0.size:=ASz ..;have hni:(n-i)*i0.size=n*i0.size-i*i0.size:=AU5 ..;have hold:(Builtin.firstCells i0.size i (.slice (some ⟨b,off,none⟩) i c)).run P w.drew= .ok (cs.take (i*i0.size)).toArray w.drew:=by
  simp only[Builtin.firstCells];have hl:(cs.take (i*i0.size)).length=i*i0.size:=by rw[ATH];omega
  have hca:BX w.drew b off (cs.take (i*i0.size)):=fun j v hj=>by
   rw[AVI]at hj;split at hj
   ·exact v7 j v hj
   ·cases hj
  conv=>lhs;rw[←hl]
  exact MQ hca
 have AUT:(n+m)*i0.bytes≤140737488355328:=by
  have:(n+m)*i0.bytes≤C7*512:=Nat.mul_le_mul Ym hby;simp only[C7]at this;omega
 have ANM:(n+m-i)*i0.bytes≤281474976710656:=by
  have:(n+m-i)*i0.bytes≤(n+m)*i0.bytes:=APC _ (by omega);omega
 have hrz:∀ty,(Builtin.append_ #[(ρ.t 24),(ρ.t 3)] ty #[.slice (some ⟨b,off,none⟩) i c,.int .i64 ((n:Int)+(m:Int)-(i:Int))]).run P w=
   .ok (.slice (some ⟨w.heap.size,0,none⟩) (n+m) (grownCap w (n+m) c (ρ.t 9))) (w.drew.alloc (.cells ((cs.take (i*i0.size)).toArray++Builtin.zeroCells z.cells (n+m-i)++Builtin.zeroCells z.cells (grownCap w (n+m) c (ρ.t 9)-(n+m))) (ρ.t 9))):=fun ty=>by
  have h:=Lib.run_append_grow_zeros w (ρ.t 24) (ρ.t 3) ty (ρ.t 9) i0 z .i64 .i64 L.t24 L.t3 vB hz (some ⟨b,off,none⟩) i c (cs.take (i*i0.size)) hold (n+m-i) (by omega) hs0 (by omega) (by omega) ANM (by rw[hik];exact growslice_fits Ts AUT);rw[hik]at h;rw[hkk];exact h
 have hGn:n+m≤grownCap w (n+m) c (ρ.t 9):=grownCap_ge w _ _ _;have AY7:grownCap w (n+m) c (ρ.t 9)≤9223372036854775807:=by
  have:=grownCap_le_maxLen w (n+m) c (ρ.t 9) (by unfold maxLen;omega);unfold maxLen at this;omega
 obtain⟨G,hG⟩:∃G,G=grownCap w (n+m) c (ρ.t 9):=⟨_,rfl⟩;rw[←hG]at hrz hGn AY7⊢;obtain⟨ROW,ABT⟩:∃ROW:Array Value,ROW=(cs.take (i*i0.size)).toArray++Builtin.zeroCells z.cells (n+m-i)++Builtin.zeroCells z.cells (G-(n+m)):=⟨_,rfl⟩;rw[←ABT]at hrz⊢;have hRl:(n+m)*i0.size≤ROW.size:=by
  rw[ABT];simp only[AWs,AWu,size_zeroCells,hzl,ATH];have e1:(n+m-i)*i0.size=(n+m)*i0.size-i*i0.size:=AU5 ..;omega
 obtain⟨W1,hW1⟩:∃W1,W1=w.drew.alloc (.cells ROW (ρ.t 9)):=⟨_,rfl⟩;rw[←hW1]at hrz;have AW8:W1.heap[w.heap.size]? =some (.cells ROW (ρ.t 9)):=by
  rw[hW1]
  show(w.heap.push (.cells ROW (ρ.t 9)))[w.heap.size]? =_
  simp
 have AEh:∀x,x<w.heap.size→W1.heap[x]? =w.heap[x]?:=fun x hx=>by rw[hW1];exact JJ hx
 have hN:∀o l,o+l≤(n+m)*i0.size→W1.there w.heap.size o l:=fun o l h=>Vg (k:=1) AW8 (by omega) (XY _)
 have yd:(cs.drop (i*i0.size)).length=(n-i)*i0.size:=by rw[AT9,Zi,hni]
 have AYm:∀(W:World),(∀x,W.cell? x=W1.cell? x)→(∀x,W.frozen? x=W1.frozen? x)→W.heap=W1.heap→ ∀ty dc,(Builtin.copy_ #[(ρ.t 24),(ρ.t 24)] ty #[.slice (some ⟨w.heap.size,i*i0.size,none⟩) (n+m-i) dc,.slice (some va) m vc]).run P W= .ok (goInt m) (W.setCells w.heap.size (i*i0.size) vs):=fun W hWc hWf sx ty dc=>
  bf (n:=m) L.t24 vB (by simp only[Nat.min_def];split<;>omega) (fun V hV=>by subst hV;exact Wl _ (by rw[sx];exact AEh _ hvw)) (fun j hj=>by
   have:=hN (i*i0.size) (m*i0.size) (by omega) j (by omega);exact⟨by rw[hWc];exact this.1,by rw[hWf];exact this.2⟩) h1v
 have AVW:∀(W:World),(∀x,W.cell? x=(W1.setCells w.heap.size (i*i0.size) vs).cell? x)→(∀x,W.frozen? x=(W1.setCells w.heap.size (i*i0.size) vs).frozen? x)→W.heap=(W1.setCells w.heap.size (i*i0.size) vs).heap→ ∀ty dc sc,(Builtin.copy_ #[(ρ.t 24),(ρ.t 24)] ty #[.slice (some ⟨w.heap.size,(i+m)*i0.size,none⟩) (n+m-(i+m)) dc,.slice (some ⟨b,off+i*i0.size,none⟩) (n-i) sc]).run P W= .ok (goInt (n-i:Nat)) (W.setCells w.heap.size ((i+m)*i0.size) (cs.drop (i*i0.size))):=fun W hWc hWf sx ty dc sc=>
  bf (n:=n-i) L.t24 vB (by simp only[Nat.min_def];split<;>omega) (fun V hV=>by
   subst hV;simp only[Builtin.firstCells];rw[←yd];refine MQ fun j v hj=> ?_
   rw[AVE]at hj;have h3:=v7 _ v hj;rw[←ATC]at h3;rw[←h3];refine World.cell?_of_block (a:=⟨b,off+i*i0.size+j,none⟩) ?_
   rw[sx,DR _ _ _ _ _ (show b≠w.heap.size by omega)];exact AEh b qT) (fun j hj=>by
   have hb:W1.there w.heap.size ((i+m)*i0.size) (cs.drop (i*i0.size)).length:=hN _ _ (by omega);refine⟨?_,?_⟩
   ·rw[hWc]
    exact isSome_setCells _ _ _ _ (fun t ht=>(hN (i*i0.size) vs.length (by omega) t ht).1) _ (hb j hj).1
   ·rw[hWf,World.frozen?_setCells]
    exact(hb j hj).2) (fun v hv=>h1c v (ATI hv))
 generalize hk:i0.size=k at*
 have hE1:∀x,((w.alloc (.cells ROW (ρ.t 9))).drew).cell? x=W1.cell? x:=fun x=>by rw[hW1];rfl
 have hE2:∀x,((w.alloc (.cells ROW (ρ.t 9))).drew).frozen? x=W1.frozen? x:=fun x=>by rw[hW1];rfl
 have hE3:((w.alloc (.cells ROW (ρ.t 9))).drew).heap=W1.heap:=by rw[hW1];rfl
 have hF1:∀x,(((w.alloc (.cells ROW (ρ.t 9))).drew.setCells w.heap.size (i*k) vs).drew).cell? x=(W1.setCells w.heap.size (i*k) vs).cell? x:=fun x=>by rw[hW1];rfl
 have hF2:∀x,(((w.alloc (.cells ROW (ρ.t 9))).drew.setCells w.heap.size (i*k) vs).drew).frozen? x=(W1.setCells w.heap.size (i*k) vs).frozen? x:=fun x=>by rw[hW1];rfl
 have hF3:(((w.alloc (.cells ROW (ρ.t 9))).drew.setCells w.heap.size (i*k) vs).drew).heap=(W1.setCells w.heap.size (i*k) vs).heap:=by rw[hW1];rfl
 have hw1:IntKind.i64.wrap ((i:Int)+(m:Int))=(i:Int)+(m:Int):=by rw[IntKind.wrap_i64];omega
 have hb1:(0:Int)≤(i:Int)+(m:Int):=by omega
 have Te:i≤n:=by omega
 have htn:((i:Int)+(m:Int)).toNat=i+m:=by omega
 have hb3:(i:Int)≤(n:Int):=by omega
 have hGi: ¬(G=i):=by omega
 have Aeq: ¬(G=i+m):=by omega
 have hci: ¬(c=i):=by omega
 subst hW1;clear hkk hik hold ABT hG hRl AFP hnm him hni yd hN v7 Wl AW8 AEh AUT ANM;obtain⟨vab,vao,vas⟩:=va
 go_enter L.f22,Body2.n22_ntmps ρ
 go_wp2_with (first
  |(at_builtin;refine Lib.wpList_append_run _ rfl _ _ _ _ rfl _ _ rfl rfl _ _ (hrz _) ?_)
  |(at_builtin;refine wpList_copy_runI _ rfl _ _ (ρ.t 24) (ρ.t 24) rfl _ _ rfl rfl (AYm _ hE1 hE2 hE3 _ _) ?_)
  |(at_builtin;refine wpList_copy_runI _ rfl _ _ (ρ.t 24) (ρ.t 24) rfl _ _ rfl rfl (AVW _ (fun _=>rfl) (fun _=>rfl) rfl _ _ _) ?_))
 go_region_law_o (refine step_copy_runI rfl _ _ (ρ.t 24) (ρ.t 24) rfl (.slice (some ⟨w.heap.size,(i+m)*k,none⟩) (n+m-(i+m)) (G-(i+m))) (.slice (some ⟨b,off+i*k,none⟩) (n-i) (c-i)) (by simp[Act.eval,Act.put]) (by simp[Act.eval,Act.put]) (AVW _ hF1 hF2 hF3 (ρ.t 3) (G-(i+m)) (c-i)) ?_)
 go_wp2
 go_ret
 refine⟨rfl,((w.alloc (.cells ROW (ρ.t 9))).drew).drew,rfl,rfl,rfl,rfl,?_⟩;rw[drew_setCells]
end
end Go.Fw
end
section
namespace Go.Fw
open Go.Proofs Go.Shelf Go.RowKit Go.Lib
def Flat(w:World)(r:Ty)(css:List (List Value))(rows:List r.D):Prop:=
 css.length=rows.length∧(∀c∈css,c.length=r.n)∧ ∀(i:Nat) cs y,css[i]? =some cs→rows[i]? =some y→Rd w (fun _=>False) r cs y
theorem Flat.to{w w':World}{r:Ty}(hf:r.flat=true){css:List (List Value)}{rows:List r.D}(h:Flat w r css rows):Flat w' r css rows:=
 ⟨h.1,h.2.1,fun i cs y a b=>fR hf (h.2.2 i cs y a b)⟩
theorem Flat.take{w:World}{r:Ty}{css:List (List Value)}{rows:List r.D}(h:Flat w r css rows)(n:Nat):Flat w r (css.take n) (rows.take n):=by
 refine⟨by simp[h.1],fun c hc=>h.2.1 c (AUX hc),fun i cs y a b=> ?_⟩;rw[AVI]at a b;split at a
 ·rename_i hi
  rw[AM1 hi]at b;exact h.2.2 i cs y a b
 simp_all
theorem Flat.drop{w:World}{r:Ty}{css:List (List Value)}{rows:List r.D}(h:Flat w r css rows)(n:Nat):Flat w r (css.drop n) (rows.drop n):=by
 refine⟨by simp[h.1],fun c hc=>h.2.1 c (ATI hc),fun i cs y a b=> ?_⟩;rw[AVE]at a b;exact h.2.2 _ cs y a b
theorem Flat.append{w:World}{r:Ty}{css sg:List (List Value)}{rows AVV:List r.D}(h:Flat w r css rows)(k:Flat w r sg AVV):Flat w r (css++sg) (rows++AVV):=by
 refine⟨by simp[h.1,k.1],fun c hc=>(AOk.1 hc).elim (h.2.1 c) (k.2.1 c),fun i cs y a b=> ?_⟩;by_cases hi:i<rows.length
 ·rw[AOw (by rw[h.1];omega)]at a
  rw[AOw hi]at b;exact h.2.2 i cs y a b
 ·rw[AP3 (by rw[h.1];omega)]at a
  rw[AP3 (by omega)]at b;rw[h.1]at a;exact k.2.2 _ cs y a b
theorem Flat.one{w:World}{r:Ty}(hf:r.flat=true){css:List (List Value)}{rows:List r.D}(h:Flat w r css rows):∀v∈css.flatten,v.oneCell' =true:=by
 intro v hv;obtain⟨c,hc,hv⟩:=ASb.1 hv;obtain⟨i,hi,rfl⟩:=ASe hc;have h1:=h.1;exact lk (js (S:=fun _=>False) (d:=0) hf (h.2.2 i _ _ (AM4 hi) (AM4 (by omega)))) v hv
theorem Flat.at{w:World}{S:Nat→Prop}{d:Nat}{r:Ty}(hf:r.flat=true){css:List (List Value)}{rows:List r.D}(h:Flat w r css rows):FN w S d r css rows (List.replicate rows.length []):=FN.flat hf h.1 h.2.1 h.2.2
theorem ALb{w:World}{S:Nat→Prop}{r:Ty}(hf:r.flat=true){css:List (List Value)}{rows:List r.D}{Fs:List ABG}{d:Nat}(h:FN w S d r css rows Fs):Flat w r css rows:=by
 refine⟨h.1,h.2.2.1,fun i cs y a b=> ?_⟩;have hi:=(ANF.1 b).1;have h2:=h.2.1;exact fR hf (X_ (h.2.2.2 i cs y (Fs[i]'(by omega)) a b (AM4 _)))
theorem Flat.tH{w:World}{r:Ty}{css:List (List Value)}{rows:List r.D}(h:Flat w r css rows)(n:Nat)(hn:n≤rows.length):css.flatten.take (n*r.n)=(css.take n).flatten:=by
 have h1:((css.take n).flatten).length=n*r.n:=by
  rw[IC (n:=r.n) (fun c hc=>h.2.1 c (AUX hc)),ATH,h.1,Nat.min_eq_left hn]
 grind[List.take_append_drop,List.flatten_append,List.take_of_length_le]
theorem Flat.s_{w:World}{r:Ty}{css:List (List Value)}{rows:List r.D}(h:Flat w r css rows)(n:Nat)(hn:n≤rows.length):css.flatten.drop (n*r.n)=(css.drop n).flatten:=by
 have h1:((css.take n).flatten).length=n*r.n:=by
  rw[IC (n:=r.n) (fun c hc=>h.2.1 c (AUX hc)),ATH,h.1,Nat.min_eq_left hn]
 grind[List.take_append_drop,List.flatten_append,List.drop_eq_nil_of_le]
theorem j8{w:World}{S:Nat→Prop}{d b o cap:Nat}{r:Ty}{rows:List r.D}{css:List (List Value)}{Fs:List ABG}{arr:Array Value}{ty:TypeId}{fr:ACT}(h:FN w S d r css rows Fs)(hb:w.heap[b]? =some (.cells arr ty fr))
  (hc:BX w b o css.flatten) (yB:rows.length≤cap) (P5:o+cap*r.n≤arr.size) (hu:vL fr (arr.size+mk r)):Ow w S (d+1) (.sl r) [.slice (some ⟨b,o,none⟩) rows.length cap] rows (b::Fs.flatten):=by
 simp only[Ow];refine⟨_,cap,rfl,yB,.inr ⟨b,o,arr,ty,fr,Fs,rfl,hb,P5,hu,rfl,h.2.1,fun j q G hq hG=> ?_⟩⟩;have hj:=(ANF.1 hq).1;have h1:=h.1;have xR:j<css.length:=by omega
 refine⟨css[j],h.2.2.1 _ (AN7 _),fun x u hx=> ?_,h.2.2.2 j _ _ _ (AM4 xR) hq hG⟩;have hxl:=(ANF.1 hx).1;rw[h.2.2.1 _ (AN7 _)]at hxl;have:=ZS (n:=r.n) (css:=css) (ex:=[]) (i:=j) h.2.2.1 (AM4 xR) hxl;rw[AOC,hx]at this;have:=hc _ _ this;grind
theorem mg{w:World}{b o:Nat}{A V B:List Value}{arr:Array Value}{ty:TypeId}{fr:ACT}(hb:w.heap[b]? =some (.cells arr ty fr))(hs:o+(A.length+V.length)+B.length≤arr.size)(hA:BX w b o A):
  ∃Kt,((w.setCells b (o+(A.length+V.length)) B).setCells b (o+A.length) V).heap[b]? =some (.cells Kt ty fr)∧Kt.size=arr.size∧BX ((w.setCells b (o+(A.length+V.length)) B).setCells b (o+A.length) V) b o (A++V++B):=by
 have h1:=Fm B (o+(A.length+V.length)) w b arr ty fr hb;have z1:(FM arr (o+(A.length+V.length)) B).size=arr.size:=Fl ..;have h2:=Fm V (o+A.length) _ b _ ty fr h1;grind[Oe,Fl,BX.append,U0,List.length_append]
theorem ji{w:World}{b o:Nat}{A V B:List Value}{arr:Array Value}{ty:TypeId}{fr:ACT}(hb:w.heap[b]? =some (.cells arr ty fr))(hs:o+(A.length+V.length)+B.length≤arr.size)(hA:BX w b o A):
  ∃Kt,((w.setCells b (o+A.length) V).setCells b (o+(A.length+V.length)) B).heap[b]? =some (.cells Kt ty fr)∧Kt.size=arr.size∧BX ((w.setCells b (o+A.length) V).setCells b (o+(A.length+V.length)) B) b o (A++V++B):=by
 have h1:=Fm V (o+A.length) w b arr ty fr hb;have z1:(FM arr (o+A.length) V).size=arr.size:=Fl ..;have h2:=Fm B (o+(A.length+V.length)) _ b _ ty fr h1;grind[Oe,Fl,BX.append,U0,List.length_append]
@[reducible] def sv (r:Ty):A6:=⟨[(0,.c (.ref 0)),(1,.c (.v (.int .i64))),(2,.c (.sl false r))],[.sl 1 r]⟩
@[reducible] def xV (r:Ty):A6:=⟨[(0,.c (.ref 1))],[.gone,.sl 1 r]⟩
theorem zQ{P:Program}{f:Nat}{args:Array Value}{E:Env}{w:World}{r:Ty}{d:Nat}(hd:1≤d){F:ABG}(hS:Sep E w F){l:List r.D}{Q:Ending→World→Prop}
  (h:Calls P f args w Q) (hq:∀e w',Q e w'→ ∃v F',e= .returned v∧isSlice v=true∧Ow w' E.S d (.sl r) [v] l F'∧F'.Nodup∧(∀c∈F',¬E.T c∧c<w'.heap.size)∧(∀c,E.T c→w'.heap[c]? =w.heap[c]?)∧Grown w w'):
  Calls P f args w fun e w' => ∃x E',e= .returned x∧dZ E w E' w'∧C8 E' w' [.dead,.sl d r l] [.dead,.sl d r l] []∧
   Oy E' w' [.dead,.sl d r l] id [(0,.c (.ref 1))] ((),()) [x]∧ ∀i,i<1→alive [.gone,.sl d r] i=true→E'.IE i=E.IE i∧E'.IF i=E.IF i:=by
 refine h.mono fun e w' hh=> ?_
 obtain⟨v,F',rfl,hv,ho,nd,hfr,hT,hg⟩:=hq e w' hh
 let E':Env:={ E with IF:=fun n=>if n=1 then v else E.IF n }
 refine⟨v,E',rfl,⟨fun _ h=>h,fun _ h=>h,fun _ h=> .inl h,fun _ h=> .inl h,hT,hg.os,hg.tape,hg.output,hg.size⟩,⟨[[],F'],⟨rfl,fun k B F hB hF=> ?_⟩,?_⟩,?_,fun i hi ha=> ?_⟩
 ·match k with
  |0=>
   simp at hB hF;subst hB hF;rfl
  |1=>
   simp at hB hF;subst hB hF;exact⟨hd,ho⟩
  |k+2=>simp_all
 ·refine⟨by simp_all,fun c hc=>(hfr c (by simp_all)).1,fun c hc=>(hfr c (by simp_all)).2,hS.st,fun c hc=>ASn (hS.dV c hc) hg.size⟩
 ·refine⟨⟨v,rfl,?_⟩,trivial⟩
  refine⟨hv,?_⟩
  show DE r l []∧(∃q,HE r l []=some q)∧JH w' (E'.IF 1) []=some v
  refine⟨trivial,⟨_,rfl⟩,?_⟩;rfl
 grind
end Go.Fw
end
section
namespace Go.Fw
open Go.M Go.Proofs Go.Shelf Go.RowKit Go.Lib
theorem w_{w:World}{b:Nat}{arr:Array Value}{ty:TypeId}{fr:ACT}(h:w.heap[b]? =some (.cells arr ty fr)):w.shape? b=some (ty,arr.size):=by
 simp[World.shape?,h]
theorem AEu{w:World}{b o:Nat}{v:Value}(h:w.cell? ⟨b,o,none⟩=some v):∃arr ty fr,w.heap[b]? =some (.cells arr ty fr)∧o<arr.size:=by
 unfold World.cell? at h;grind
theorem Grown.trans'{w w' w'':World}(h:Grown w w')(k:Grown w' w''):Grown w w'':=⟨k.os.trans h.os,k.tape.trans h.tape,k.output.trans h.output,ASY h.size k.size⟩
theorem tY{P:Program}{T:J8}{ρ:Ren}{nm:String}{fv:Func}(hT:Ei P T)(L:eU P ρ nm fv){r:Ty}(Vb:T.Nv (ρ.t 24) r=true)(hf:r.flat=true)(Z5:mk r=1)(hn0:0<r.n):
  YK P (ρ.f 22) ⟨sv r,xV r,fun v=>(vX v.1.2.1 v.1.2.2.1 v.2.1).map fun l=>(((),()),((),l,()))⟩:=by
 refine⟨by simp[QJ.ok,kinds,kh,AP.ME,XP.ME,BP.ME],Xk L.f22 L.n22 (by kernel_rfl),?_⟩;intro E w v args u ATc hB hS hg;obtain⟨⟨u0,p,vs,u1⟩,rows,u2⟩:=v;obtain⟨⟨⟨⟩,⟨⟩⟩,⟨⟩,l,⟨⟩⟩:=u;simp only[AND]at hg;obtain⟨l',iV,hg⟩:=hg;simp only[ASM,true_and,ASq]at hg;subst hg;unfold vX at iV;split at iV
 case isFalse=>cases iV
 rename_i hc;obtain⟨hp0,hp1,Ym⟩:=hc;obtain⟨p,rfl⟩:=AWQ hp0;simp only[AN4,ANB]at iV;have hpn:p≤rows.length:=by omega
 obtain⟨⟨a0,h0,x0⟩,⟨a1,h1,x1⟩,⟨a2,h2,x2⟩,_⟩:=hS;have Is:args= #[a0,a1,a2]:=by
  have hl3:args.toList.length=3:=ATc;apply Array.ext'
  match hq:args.toList,hl3 with
  |[b0,b1,b2],_=>
   rw[hq]at h0 h1 h2;simp at h0 h1 h2;simp[h0,h1,h2]
 subst Is;have e0:E.IF 0=a0:=by
  have:VR E w [Bx.sl 1 r rows] (.ref 0 []) a0:=x0;simp only[VR]at this;obtain⟨_,_,_,h⟩:=this;rw[DA]at h;exact AXN h
 have e1:a1= .int .i64 (p:Int):=by
  have:VR E w [Bx.sl 1 r rows] (.v (.int .i64) (p:Int)) a1:=x1;simp only[VR,Rd,AR6,ASq]at this;exact this.2
 have e2:Rd w E.T (.sl r) [a2] vs:=by
  have:VR E w [Bx.sl 1 r rows] (.sl false r vs) a2:=x2;simp only[VR]at this;simpa using this
 subst e1;obtain⟨Fs,⟨hFl,hFb⟩,hSep⟩:=hB;obtain⟨F,rfl⟩:∃F,Fs=[F]:=by
  match Fs,hFl with
  |[F],_=>exact⟨F,rfl⟩
 have AE6:=hFb 0 (.sl 1 r rows) F rfl rfl;obtain⟨_,ho⟩:=AE6;rw[e0]at ho;simp only[ATF,AU6,AOC]at hSep;have ho0:=ho;obtain⟨ad,cap,css,Fs1,R1,rfl,hle,hd,hp1',hcase⟩:=nw ho;have rF:=ALb hf hd;obtain⟨e,ti,hut,Vr,hs1,hby,hrow⟩:=K7 hT Vb;obtain⟨i0,z,i1,i2,i3,i4,i5,mb⟩:=XZ hT Vr hrow;have he:e=ρ.t 9:=by
  have:=L.t24.symm.trans hut;simp at this;exact this.symm
 subst he;rw[hs1]at i2;have z9:∀w,(Go.sizeOf (ρ.t 9)).run P w= .ok r.n w:=fun w=>by simp[sizeOf,typeInfo,i1,i2]
 have hzl:z.cells.size=r.n:=by rw[←AUs,i5,Gy]
 have e2':=e2;simp only[Rd]at e2;obtain⟨va,vc,bB,hvle,hvr⟩:=e2;simp only[AR6,ASq]at bB;subst bB;have fin:∀{Q:Ending→World→Prop},Calls P (ρ.f 22) #[.slice ad rows.length cap,.int .i64 (p:Int),.slice va vs.length vc] w Q→
   (∀e w',Q e w'→ ∃v F',e= .returned v∧isSlice v=true∧Ow w' E.S 1 (.sl r) [v] l' F'∧F'.Nodup∧(∀c∈F',¬E.T c∧c<w'.heap.size)∧(∀c,E.T c→w'.heap[c]? =w.heap[c]?)∧Grown w w')→_:=fun h hq=>zQ (AQQ 1) hSep h hq
 have mU:∀n:Nat,(List.replicate n ([]:ABG)).flatten=[]:=fun n=>by simp
 by_cases hm0:vs.length=0
 ·
  have AZP:vs=[]:=ARO hm0;subst AZP;have hl:rows=l':=by rw[←iV,AOC,AUN]
  subst hl;refine fin (ADk (k:=r.n) L z9 ad rows.length cap p va vc w hpn hle) fun e w' h=> ?_
  obtain⟨rfl,rfl⟩:=h;exact⟨_,F,rfl,rfl,ho0,hSep.nodup,fun c hc=>⟨hSep.free c hc,hSep.lt c hc⟩,fun _ _=>rfl,⟨rfl,rfl,rfl,AQQ _⟩⟩
 have hm:0<vs.length:=by omega
 rcases hvr with hvr|⟨vb,vo,rfl,hvT,hvr⟩
 ·exact absurd hvr hm0
 obtain⟨sg,c1,c2,c3,c4⟩:=pD hvr;have ZL:Flat w r sg vs:=⟨c1,c2,fun i cs y a b=>fR hf (c4 i cs y a b)⟩;have yN:sg.flatten.length=vs.length*r.n:=by rw[IC c2,c1]
 have yK:css.flatten.length=rows.length*r.n:=by rw[IC hd.2.2.1,hd.1]
 have ATa:0<sg.flatten.length:=by rw[yN];exact Nat.mul_pos hm hn0
 obtain⟨arrv,tyv,frv,hbv,hov⟩:=AEu (c3 0 _ (AM4 ATa));have AZ0:vb<w.heap.size:=by
  by_cases hh:vb<w.heap.size
  ·exact hh
  ·rw[Array.getElem?_eq_none (by omega)]at hbv;cases hbv
 have mE:kN P w r.n vs.length (.slice (some ⟨vb,vo,none⟩) vs.length vc) sg.flatten:=Q3 c1 c2 (.inr ⟨vb,vo,rfl,c3⟩);have AWg:∀W:World,W.heap[vb]? =w.heap[vb]?→(Builtin.firstCells r.n vs.length (.slice (some ⟨vb,vo,none⟩) vs.length vc)).run P W= .ok sg.flatten.toArray W:=fun W hW=>by
  simp only[Builtin.firstCells];rw[←yN];exact MQ (c3.of_block hW)
 have AL0:=rF.one hf;have AEq:=ZL.one hf;by_cases Ts:rows.length+vs.length≤cap
 ·rcases hcase with⟨h0,_⟩|⟨b,o,arr,ty,fr,rfl,hb,P5,hu,rfl,q8⟩
  ·omega
  have hbT: ¬E.T b:=hSep.free b (by simp);have ADr:b<w.heap.size:=hSep.lt b (by simp);have ea:vb≠b:=fun e=>hbT (e▸hvT)
  have AcC:(rows.length+vs.length)*r.n≤cap*r.n:=APC _ Ts;have hnm:(rows.length+vs.length)*r.n=rows.length*r.n+vs.length*r.n:=ASz ..;by_cases hpe:p=rows.length
  ·subst hpe
   have hl:rows++vs=l':=by rw[←iV,List.take_length,AS1,AOC]
   subst hl;have jK:=AE9 (ρ:=ρ) L (i0:=i0) i1 b o rows.length cap ⟨vb,vo,none⟩ vs.length vc sg.flatten w hm Ts (by rw[i2];exact Vg (k:=mk r) hb (by omega) hu) (by rw[i2];exact mE) AEq;refine fin jK fun e w' h=> ?_
   obtain⟨rfl,rfl⟩:=h;obtain⟨Kt,q1,q2,q3⟩:=mg (B:=[]) (V:=sg.flatten) hb (by simp only[AQl];omega) q8;rw[yK,←i2]at q1 q3;simp only[World.setCells,AOC]at q1 q3;have xO:=(rF.append ZL).to (w':=w.setCells b (o+rows.length*i0.size) sg.flatten) hf;refine⟨_,b::(List.replicate (rows++vs).length ([]:ABG)).flatten,rfl,rfl,?_,?_,?_,fun c hc=>DR _ _ _ _ _ (fun e=>hbT (e▸hc)),B9 _ _ _ _⟩
   ·have:=j8 (cap:=cap) (xO.at (S:=E.S) (d:=0) hf) q1 (by rw[AS6];exact q3) (by rw[AOq];exact Ts) (by rw[q2];exact P5) (by rw[q2];exact hu)
    rw[mU]at this⊢;rw[AOq]at this;exact this
   ·simp
   ·intro c hc
    rw[mU]at hc;simp at hc;subst hc;exact⟨hbT,by rw[Da];exact ADr⟩
  ·have G4:p<rows.length:=by omega
   have hpm:p*r.n≤rows.length*r.n:=APC _ hpn;have APp:(p+vs.length)*r.n=p*r.n+vs.length*r.n:=ASz ..;have jK:=AB1 (ρ:=ρ) L (i0:=i0) i1 (by rw[i2];exact hn0) b o rows.length cap p ⟨vb,vo,none⟩ vs.length vc css.flatten sg.flatten w G4 hm Ts Ym ea (by rw[i2];exact yK) (by rw[i2];exact yN) q8
    (by rw[i2];exact Vg (k:=mk r) hb (by omega) hu) (by rw[i2];exact AWg) AL0 AEq tyv ty arrv.size arr.size (w_ hbv) (w_ hb) (by omega) (by
     have:=hu arr.size (by omega);obtain⟨lo,hi⟩:=fr;simp only[World.frozen?,hb];simp at this⊢;omega)
   refine fin jK fun e w' h=> ?_
   obtain⟨rfl,W,sx,hWg,rfl⟩:=h;have hA:(css.flatten.take (p*r.n)).length=p*r.n:=by rw[ATH];omega
   have hB:(css.flatten.drop (p*r.n)).length=rows.length*r.n-p*r.n:=by rw[AT9,yK]
   have hbW:W.heap[b]? =some (.cells arr ty fr):=by rw[sx];exact hb
   have hcA:BX W b o (css.flatten.take (p*r.n)):=BX.heap (fun j v hj=>by
    rw[AVI]at hj;split at hj
    ·exact q8 j v hj
    ·cases hj) sx
   obtain⟨Kt,q1,q2,q3⟩:=mg (B:=css.flatten.drop (p*r.n)) (V:=sg.flatten) hbW (by omega) hcA;rw[hA,yN,←APp,←i2]at q1 q3
   generalize rp:(W.setCells b (o+(p+vs.length)*i0.size) (css.flatten.drop (p*i0.size))).setCells b (o+p*i0.size) sg.flatten=w' at q1 q3
   have xO:=(((rF.take p).append ZL).append (rF.drop p)).to (w':=w') hf;rw[iV]at xO;have xJ:l'.length=rows.length+vs.length:=by rw[←iV];simp;omega
   refine⟨_,b::(List.replicate l'.length ([]:ABG)).flatten,rfl,rfl,?_,?_,?_,fun c hc=> ?_,?_⟩
   ·have:=j8 (cap:=cap) (xO.at (S:=E.S) (d:=0) hf) q1 (by
     rw[AS6,AS6,←rF.tH p hpn,←rF.s_ p hpn,←i2];exact q3) (by rw[xJ];exact Ts) (by rw[q2];exact P5) (by rw[q2];exact hu)
    rw[mU]at this⊢;rw[xJ]at this;exact this
   ·simp
   ·intro c hc
    rw[mU]at hc;simp at hc;subst hc;refine⟨hbT,?_⟩;rw[←rp,Da,Da,sx];exact ADr
   ·have hcb:c≠b:=fun e=>hbT (e▸hc)
    rw[←rp,DR _ _ _ _ _ hcb,DR _ _ _ _ _ hcb,sx]
   ·rw[←rp]
    exact Grown.trans' hWg (Grown.trans' (B9 _ _ _ _) (B9 _ _ _ _))
 ·have hgc:=grownCap_ge w (rows.length+vs.length) cap (ρ.t 9)
  by_cases hpe:p=rows.length
  ·subst hpe
   have hl:rows++vs=l':=by rw[←iV,List.take_length,AS1,AOC]
   subst hl;have hold:rows.length=0∨ ∃b o,ad=some ⟨b,o,none⟩∧BX w b o css.flatten:=by
    rcases hcase with⟨h0,_⟩|⟨b,of,arr,ty0,fr,rfl,hb,P5,hunf,rfl,hc⟩
    ·exact .inl (by omega)
    ·exact .inr ⟨b,of,rfl,hc⟩
   have jK:=AEJ (ρ:=ρ) L (i0:=i0) (z:=z) i1 i4 (by omega) ad rows.length cap ⟨vb,vo,none⟩ vs.length vc css.flatten sg.flatten w hm hle (by omega) Ym (by rw[i2];exact gK hd.1 hd.2.2.1 hold) (by rw[i2];exact mE);refine fin jK fun e w' h=> ?_
   obtain⟨rfl,rfl⟩:=h
   generalize grownCap w (rows.length+vs.length) cap (ρ.t 9)=gc at hgc⊢
   generalize dM:css.flatten.toArray++sg.flatten.toArray++Builtin.zeroCells z.cells (gc-(rows.length+vs.length))=arr
   have hal:arr.toList=(css++sg).flatten++(Builtin.zeroCells z.cells (gc-(rows.length+vs.length))).toList:=by rw[←dM];simp
   have AbO:arr.size=gc*r.n:=by
    rw[←dM];simp only[AWs,AWu,aR,hzl,yN,yK,←ASz];congr 1;omega
   have new:(w.drew.alloc (.cells arr (ρ.t 9))).heap[w.heap.size]? =some (.cells arr (ρ.t 9)):=by
    show(w.heap.push (.cells arr (ρ.t 9)))[w.heap.size]? =_
    simp
   have xO:=(rF.append ZL).to (w':=w.drew.alloc (.cells arr (ρ.t 9))) hf;have hra:=xO.at (S:=E.S) (d:=0) hf;refine⟨_,w.heap.size::(List.replicate (rows++vs).length ([]:ABG)).flatten,rfl,rfl,?_,?_,?_,fun c hc=>JJ (hSep.dV c hc),⟨rfl,rfl,rfl,by show _≤(w.heap.push _).size;simp⟩⟩
   ·have:=dx (cap:=gc) new hal hra.1 (by rw[AOq];exact hgc) (by omega) (XY _) hra.2.1 hra.2.2.2
    rw[mU]at this⊢;rw[AOq]at this;exact this
   ·simp
   ·intro c hc
    rw[mU]at hc;simp at hc;subst hc;exact⟨fun xN=>Nat.lt_irrefl _ (hSep.dV _ xN),by show _<(w.heap.push _).size;simp⟩
  ·have G4:p<rows.length:=by omega
   have hpm:p*r.n≤rows.length*r.n:=APC _ hpn;have APp:(p+vs.length)*r.n=p*r.n+vs.length*r.n:=ASz ..;have hnm:(rows.length+vs.length)*r.n=rows.length*r.n+vs.length*r.n:=ASz ..;rcases hcase with⟨h0,_⟩|⟨b,o,arr,ty,fr,rfl,hb,P5,hu,rfl,q8⟩
   ·omega
   have ADr:b<w.heap.size:=hSep.lt b (by simp);have jK:=AJT (ρ:=ρ) L (i0:=i0) (z:=z) i1 i4 (by rw[i2];exact hzl) (by rw[i2];exact hn0) (by omega) b o rows.length cap p ⟨vb,vo,none⟩ vs.length vc css.flatten sg.flatten w G4 hm hle (by omega) Ym (by rw[i2];exact yK) (by rw[i2];exact yN) ADr q8 AZ0 (by rw[i2];exact AWg) AL0 AEq;refine fin jK fun e w' h=> ?_
   obtain⟨rfl,W,sx,hWo,hWt,hWu,rfl⟩:=h
   generalize grownCap w (rows.length+vs.length) cap (ρ.t 9)=gc at hgc sx⊢
   have hA:(css.flatten.take (p*r.n)).length=p*r.n:=by rw[ATH];omega
   have hB:(css.flatten.drop (p*r.n)).length=rows.length*r.n-p*r.n:=by rw[AT9,yK]
   rw[i2]at sx
   generalize ABT:(css.flatten.take (p*r.n)).toArray++Builtin.zeroCells z.cells (rows.length+vs.length-p)++Builtin.zeroCells z.cells (gc-(rows.length+vs.length))=ROW at sx
   have hRs:ROW.size=gc*r.n:=by
    rw[←ABT];simp only[AWs,AWu,aR,hzl,hA,←ASz];congr 1;omega
   have hgm:(rows.length+vs.length)*r.n≤gc*r.n:=APC _ hgc;have hbW:W.heap[w.heap.size]? =some (.cells ROW (ρ.t 9)):=by rw[sx];simp
   have hcA:BX W w.heap.size 0 (css.flatten.take (p*r.n)):=fun j v hj=>by
    have xR:=(ANF.1 hj).1;rw[LJ hbW,AS7,←Array.getElem?_toList,←ABT];simp only[Array.toList_append,AOK];rw[AOw xR];exact hj
   obtain⟨Kt,q1,q2,q3⟩:=ji (B:=css.flatten.drop (p*r.n)) (V:=sg.flatten) hbW (by omega) hcA;rw[hA,yN,←APp,←i2,AS7,AS7]at q1 q3
   generalize rp:(W.setCells w.heap.size (p*i0.size) sg.flatten).setCells w.heap.size ((p+vs.length)*i0.size) (css.flatten.drop (p*i0.size))=w' at q1 q3
   have xO:=(((rF.take p).append ZL).append (rF.drop p)).to (w':=w') hf;rw[iV]at xO;have xJ:l'.length=rows.length+vs.length:=by rw[←iV];simp;omega
   refine⟨_,w.heap.size::(List.replicate l'.length ([]:ABG)).flatten,rfl,rfl,?_,?_,?_,fun c hc=> ?_,?_⟩
   ·have:=j8 (cap:=gc) (xO.at (S:=E.S) (d:=0) hf) q1 (by
     rw[AS6,AS6,←rF.tH p hpn,←rF.s_ p hpn,←i2];exact q3) (by rw[xJ];exact hgc) (by rw[q2];omega) (XY _)
    rw[mU]at this⊢;rw[xJ]at this;exact this
   ·simp
   ·intro c hc
    rw[mU]at hc;simp at hc;subst hc;refine⟨fun xN=>Nat.lt_irrefl _ (hSep.dV _ xN),?_⟩;rw[←rp,Da,Da,sx];simp
   ·have Zi:=hSep.dV c hc
    rw[←rp,DR _ _ _ _ _ (by omega),DR _ _ _ _ _ (by omega),sx];exact JJ Zi
   ·rw[←rp]
    refine Grown.trans' (w':=W) ⟨hWo,hWt,hWu,by rw[sx];simp⟩ (Grown.trans' (B9 _ _ _ _) (B9 _ _ _ _))
end Go.Fw
end
section
namespace Go.Fw
open Go.M Go.Proofs Go.Shelf Go.RowKit Go.Lib
structure oW (P:Program) (ρ:Ren) (nm:String):Prop where
 mixed:P.follows .mixedOrders=true
 f24:P.funcs[ρ.f 24]? =some { Body2.n24 ρ with name:=nm }
 n24:(nm== "runtime.NumGoroutine")=false
 t0:P.underlying (ρ.t 0)=some (TypeDesc.tuple #[])
 a0:∀w,(isAgg (ρ.t 0)).run P w= .ok false w
 z0:∀w,(Go.sizeOf (ρ.t 0)).run P w= .ok 1 w
 v0:∀w,(zeroValue (ρ.t 0)).run P w= .ok (Value.tuple #[]) w
 t3:P.underlying (ρ.t 3)=some (TypeDesc.int IntKind.i64)
 a3:∀w,(isAgg (ρ.t 3)).run P w= .ok false w
 z3:∀w,(Go.sizeOf (ρ.t 3)).run P w= .ok 1 w
 v3:∀w,(zeroValue (ρ.t 3)).run P w= .ok (Value.int IntKind.i64 0) w
 t4:P.underlying (ρ.t 4)=some (TypeDesc.bool)
 a4:∀w,(isAgg (ρ.t 4)).run P w= .ok false w
 z4:∀w,(Go.sizeOf (ρ.t 4)).run P w= .ok 1 w
 v4:∀w,(zeroValue (ρ.t 4)).run P w= .ok (Value.bool false) w
 t24:P.underlying (ρ.t 24)=some (TypeDesc.slice (ρ.t 9))
 a24:∀w,(isAgg (ρ.t 24)).run P w= .ok false w
 z24:∀w,(Go.sizeOf (ρ.t 24)).run P w= .ok 1 w
 v24:∀w,(zeroValue (ρ.t 24)).run P w= .ok (Value.slice none 0 0) w
section
variable{P:Program} {ρ:Ren} {nm:String}
set_option maxHeartbeats 4000000 in
set_option maxRecDepth 1000000 in
theorem ACm(L:oW P ρ nm){k:Nat}(z9:∀w,(Go.sizeOf (ρ.t 9)).run P w= .ok k w)(ad:Option Addr)(n c i:Nat)(w:World)(hi:i≤n)(hnc:n≤c):
  Calls P (ρ.f 24) #[.slice ad n c,.int .i64 i,.int .i64 i] w fun e w' =>e= .returned (.slice ad n c)∧w' =w:=by
 have mixed:=L.mixed;have t0:=L.t0;have a0:=L.a0;have z0:=L.z0;have v0:=L.v0;have t3:=L.t3;have a3:=L.a3;have z3:=L.z3;have v3:=L.v3;have t4:=L.t4;have a4:=L.a4;have z4:=L.z4;have v4:=L.v4;have t24:=L.t24;have a24:=L.a24;have z24:=L.z24;have v24:=L.v24;have u0:=run_underlying L.t0;have u3:=run_underlying L.t3;have u4:=run_underlying L.t4;have It:=run_underlying L.t24
 go_enter L.f24,Body2.n24_ntmps ρ
 cases ad with
 |none=>
  go_wp2
  all_goals (go_ret;exact⟨rfl,rfl⟩)
 |some a=>
  obtain⟨ab,ao,asp⟩:=a
  go_wp2
  all_goals (go_ret;exact⟨rfl,rfl⟩)
theorem vf{w:World}{t elem ty:TypeId}{i0:TypeInfo}{z:Value}{b o n cap:Nat}{Z:List Value}(hu:P.underlying t=some (.slice elem))(hi:P.info? elem=some i0)(hz:i0.zero=some z)(hn:0<n)(hZ:(Builtin.zeroCells z.cells n).toList=Z)
  (oq:w.there b o Z.length) (h1:∀v∈Z,v.oneCell' =true):(Builtin.clear_ #[t] ty #[.slice (some ⟨b,o,none⟩) n cap]).run P w= .ok (.tuple #[]) (w.setCells b o Z):=by
 have rA:=run_storeCells_cells (P:=P) b o Z 0 w (by simpa using fun j hj=>(oq j hj).1) (by simpa using fun j hj=>(oq j hj).2) h1;rw[ATG]at rA;obtain⟨n,rfl⟩:∃m,n=m+1:=⟨n-1,by omega⟩;simp[Builtin.clear_,run_underlying hu,zeroValue,typeInfo,hi,hz,hZ,rA]
set_option maxHeartbeats 4000000 in
set_option maxRecDepth 1000000 in
theorem AED(L:oW P ρ nm){i0:TypeInfo}{z:Value}(vB:P.info? (ρ.t 9)=some i0)(hz:i0.zero=some z)(b off n c i j:Nat)(cs Z:List Value)(w:World)(hij:i<j)(hj:j≤n)(hnc:n≤c)
  (Zi:cs.length=n*i0.size) (v7:BX w b off cs) (oq:w.there b off (n*i0.size)) (h1c:∀v∈cs,v.oneCell' =true) (hZ:(Builtin.zeroCells z.cells (j-i)).toList=Z) (hZl:Z.length=(j-i)*i0.size) (h1z:∀v∈Z,v.oneCell' =true):
  Calls P (ρ.f 24) #[.slice (some ⟨b,off,none⟩) n c,.int .i64 i,.int .i64 j] w fun e w' =>
   e= .returned (.slice (some ⟨b,off,none⟩) (i+(n-j)) c)∧ ∃W:World,W.heap=w.heap∧Grown w W∧w' =(W.setCells b (off+i*i0.size) (cs.drop (j*i0.size))).setCells b (off+(i+(n-j))*i0.size) Z:=by
 have mixed:=L.mixed;have t0:=L.t0;have a0:=L.a0;have z0:=L.z0;have v0:=L.v0;have t3:=L.t3;have a3:=L.a3;have z3:=L.z3;have v3:=L.v3;have t4:=L.t4;have a4:=L.a4;have z4:=L.z4;have v4:=L.v4;have t24:=L.t24;have a24:=L.a24;have z24:=L.z24;have v24:=L.v24;have u0:=run_underlying L.t0;have u3:=run_underlying L.t3;have u4:=run_underlying L.t4;have It:=run_underlying L.t24;have z9:∀w,(Go.sizeOf (ρ.t 9)).run P w= .ok i0.size w:=fun w=>by simp[sizeOf,typeInfo,vB]
 obtain⟨k,hk⟩:∃k,i0.size=k:=⟨_,rfl⟩;rw[hk]at Zi oq hZl z9⊢;have e1:(n-j)*k=n*k-j*k:=AU5 ..;have e2:(j-i)*k=j*k-i*k:=AU5 ..;have e3:j*k≤n*k:=APC _ hj;have e4:i*k≤j*k:=APC _ (by omega);have e5:(i+(n-j))*k=i*k+(n-j)*k:=ASz ..;obtain⟨news,mE⟩:∃news,news=cs.drop (j*k):=⟨_,rfl⟩;have hlen:news.length=(n-j)*k:=by rw[mE,AT9,Zi];omega
 rw[←mE];obtain⟨A,hA,AN1⟩:∃A:Addr,(if c=j then(some ⟨b,off,none⟩:Option Addr)else some ⟨b,off+j*k,none⟩)=some A∧Hid (∀t u,news[t]? =some u→w.drew.cell? (A.add t)=some u):=by
  by_cases h:c=j
  ·refine⟨⟨b,off,none⟩,by simp[h],fun t u hu=> ?_⟩
   have h0:news.length=0:=by rw[hlen,show n-j=0 by omega,Nat.zero_mul]
   rw[AWK.1 h0]at hu;simp at hu
  ·refine⟨⟨b,off+j*k,none⟩,by simp[h],fun t u hu=> ?_⟩
   rw[mE,AVE]at hu;rw[Addr.add_eq,ATC];exact v7 _ u hu
 have s1:Hid (news.length=(n-j)*k):=hlen;have s2:Hid (∀u∈news,u.oneCell' =true):=fun u hu=>h1c u (by rw[mE]at hu;exact ATI hu)
 have s3:Hid (∀t,t<news.length→(w.drew.cell? ⟨b,off+i*k+t,none⟩).isSome=true∧w.drew.frozen? ⟨b,off+i*k+t,none⟩=false):=by
  intro t ht;rw[hlen]at ht;rw[ATC];exact oq _ (by omega)
 obtain⟨W1,hW1⟩:∃W1,W1=w.drew.setCells b (off+i*k) news:=⟨_,rfl⟩;have Adp:∀ty,(Builtin.clear_ #[ρ.t 24] ty #[.slice (some ⟨b,off+(i+(n-j))*k,none⟩) (n-(i+(n-j))) (c-(i+(n-j)))]).run P W1= .ok (.tuple #[]) (W1.setCells b (off+(i+(n-j))*k) Z):=fun ty=>by
  rw[show n-(i+(n-j))=j-i by omega];refine vf L.t24 vB hz (by omega) hZ (fun t ht=> ?_) h1z;rw[hZl]at ht;have h0:=oq ((i+(n-j))*k+t) (by omega);rw[←ATC]at h0;rw[hW1];refine⟨isSome_setCells b _ _ _ (fun q hq=> ?_) _ h0.1,by rw[World.frozen?_setCells];exact h0.2⟩;rw[hlen]at hq;have:=(oq (i*k+q) (by omega)).1;rw[←ATC]at this;exact this
 have hW:Hid (W1=w.drew.setCells b (off+i*k) news):=hW1;have hic:i≤c:=by omega
 have hjc:j≤c:=by omega
 have hjn:(i:Int)≤(j:Int):=by omega
 have fin:∃W:World,W.heap=w.heap∧Grown w W∧W1.setCells b (off+(i+(n-j))*k) Z=(W.setCells b (off+i*k) news).setCells b (off+(i+(n-j))*k) Z:=⟨w.drew,rfl,⟨rfl,rfl,rfl,AQQ _⟩,by rw[hW1]⟩;clear hW1 mE hlen e1 e2 e3 e4 e5 oq v7 Zi hZl
 go_enter L.f24,Body2.n24_ntmps ρ
 go_wp2_with fail
 go_region_law_o (refine step_append_room rfl (.tmp 22) (.tmp 25) (ρ.t 24) rfl (ρ.t 9) i0 k t24 vB hk b off i c (by simp[Act.eval,Act.put]) A (n-j) (c-j) news (by simp[Act.eval,Act.put]) s1.out AN1.out s2.out (by omega) s3.out ?_;rw[←hW.out])
 go_wp2
 go_ret
 exact⟨rfl,fin⟩
end
end Go.Fw
end
section
namespace Go.Fw
open Go.M Go.Proofs Go.Shelf Go.RowKit Go.Lib
theorem FN.take{w:World}{S:Nat→Prop}{d:Nat}{r:Ty}{css:List (List Value)}{rows:List r.D}{Fs:List ABG}(h:FN w S d r css rows Fs)(n:Nat):FN w S d r (css.take n) (rows.take n) (Fs.take n):=by
 refine⟨by simp[h.1],by simp[h.2.1],fun c hc=>h.2.2.1 c (AUX hc),fun i cs y G a b c=> ?_⟩;rw[AVI]at a b c;split at a
 ·rename_i hi
  rw[AM1 hi]at b c;exact h.2.2.2 i cs y G a b c
 simp_all
theorem FN.drop{w:World}{S:Nat→Prop}{d:Nat}{r:Ty}{css:List (List Value)}{rows:List r.D}{Fs:List ABG}(h:FN w S d r css rows Fs)(n:Nat):FN w S d r (css.drop n) (rows.drop n) (Fs.drop n):=by
 refine⟨by simp[h.1],by simp[h.2.1],fun c hc=>h.2.2.1 c (ATI hc),fun i cs y G a b c=> ?_⟩;rw[AVE]at a b c;exact h.2.2.2 _ cs y G a b c
theorem ACL{r:Ty}{css:List (List Value)}(hl:∀c∈css,c.length=r.n)(n:Nat)(hn:n≤css.length):css.flatten.take (n*r.n)=(css.take n).flatten:=by
 have h1:((css.take n).flatten).length=n*r.n:=by
  grind[IC,List.mem_of_mem_take,List.length_take,Nat.min_eq_left]
 grind[List.take_append_drop,List.flatten_append,List.take_of_length_le]
theorem ABS{r:Ty}{css:List (List Value)}(hl:∀c∈css,c.length=r.n)(n:Nat)(hn:n≤css.length):css.flatten.drop (n*r.n)=(css.drop n).flatten:=by
 have h1:((css.take n).flatten).length=n*r.n:=by
  grind[IC,List.mem_of_mem_take,List.length_take,Nat.min_eq_left]
 grind[List.take_append_drop,List.flatten_append,List.drop_eq_nil_of_le]
theorem eZ:∀{A B:List ABG},A.Sublist B→A.flatten.Sublist B.flatten
 |_,_,.slnil=> .slnil
 |_,_,.cons b h=>(eZ h).trans (List.sublist_append_right _ _)
 |_,_,.cons_cons b h=>(List.Sublist.refl b).append (eZ h)
theorem WE{Fs:List ABG}{p q:Nat}(hpq:p≤q):((Fs.take p++Fs.drop q).flatten).Sublist Fs.flatten:=by
 grind[List.drop_drop,List.drop_sublist,List.take_append_drop,eZ]
@[reducible] def sd (d:Nat) (r:Ty):A6:=⟨[(0,.c (.ref 0)),(1,.c (.v (.int .i64))),(2,.c (.v (.int .i64)))],[.sl d r]⟩
@[reducible] def yM (d:Nat) (r:Ty):A6:=⟨[(0,.c (.ref 1))],[.gone,.sl d r]⟩
theorem uP{P:Program}{T:J8}{ρ:Ren}{nm:String}(hT:Ei P T)(L:oW P ρ nm){r:Ty}(Vb:T.Nv (ρ.t 24) r=true)(hn0:0<r.n)(m:Nat):
  YK P (ρ.f 24) ⟨sd (m+1) r,yM (m+1) r,fun v=>(AFb v.1.2.1 v.1.2.2.1 v.2.1).map fun l=>(((),()),((),l,()))⟩:=by
 refine⟨by rfl,Xk L.f24 L.n24 (by kernel_rfl),?_⟩;intro E w v args u ATc hB hS hg;obtain⟨⟨u0,p,q,u1⟩,rows,u2⟩:=v;obtain⟨⟨⟨⟩,⟨⟩⟩,⟨⟩,l,⟨⟩⟩:=u;simp only[AND]at hg;obtain⟨l',iV,hg⟩:=hg;simp only[ASM,true_and,ASq]at hg;subst hg;unfold AFb at iV;split at iV
 case isFalse=>cases iV
 rename_i hc;obtain⟨hp0,hpq,hqn⟩:=hc;have hq0:(0:Int)≤q:=Int.le_trans hp0 hpq;obtain⟨p,rfl⟩:=AWQ hp0;obtain⟨q,rfl⟩:=AWQ hq0;simp only[AN4,ANB]at iV;have AOT:p≤q:=by omega
 have ARq:q≤rows.length:=by omega
 obtain⟨⟨a0,h0,x0⟩,⟨a1,h1,x1⟩,⟨a2,h2,x2⟩,_⟩:=hS;have Is:args= #[a0,a1,a2]:=by
  grind
 subst Is;have e0:E.IF 0=a0:=by
  have:VR E w [Bx.sl (m+1) r rows] (.ref 0 []) a0:=x0;grind[VR,DA,Option.some.inj]
 have e1:a1= .int .i64 (p:Int):=by
  have:VR E w [Bx.sl (m+1) r rows] (.v (.int .i64) (p:Int)) a1:=x1;simp only[VR,Rd,AR6,ASq]at this;simp_all
 have e2:a2= .int .i64 (q:Int):=by
  have:VR E w [Bx.sl (m+1) r rows] (.v (.int .i64) (q:Int)) a2:=x2;simp only[VR,Rd,AR6,ASq]at this;simp_all
 subst e1 e2;obtain⟨Fs,⟨hFl,hFb⟩,hSep⟩:=hB;obtain⟨F,rfl⟩:∃F,Fs=[F]:=by
  match Fs,hFl with
  |[F],_=>simp_all
 have AE6:=hFb 0 (.sl (m+1) r rows) F rfl rfl;obtain⟨_,ho⟩:=AE6;rw[e0]at ho;simp only[ATF,AU6,AOC]at hSep;have ho0:=ho;obtain⟨ad,cap,css,Fs1,R1,rfl,hle,hd,hp1',hcase⟩:=nw ho;obtain⟨e,ti,hut,Vr,hs1,hby,hrow⟩:=K7 hT Vb;obtain⟨i0,z,i1,i2,i3,i4,i5,mb⟩:=XZ hT Vr hrow;have he:e=ρ.t 9:=by
  have:=L.t24.symm.trans hut;simp_all
 subst he;rw[hs1]at i2;have z9:∀w,(Go.sizeOf (ρ.t 9)).run P w= .ok r.n w:=fun w=>by simp[sizeOf,typeInfo,i1,i2]
 have hzl:z.cells.size=r.n:=by rw[←AUs,i5,Gy]
 have fin:∀{Q:Ending→World→Prop},Calls P (ρ.f 24) #[.slice ad rows.length cap,.int .i64 (p:Int),.int .i64 (q:Int)] w Q→
   (∀e w',Q e w'→ ∃v F',e= .returned v∧isSlice v=true∧Ow w' E.S (m+1) (.sl r) [v] l' F'∧F'.Nodup∧(∀c∈F',¬E.T c∧c<w'.heap.size)∧(∀c,E.T c→w'.heap[c]? =w.heap[c]?)∧Grown w w')→_:=fun h hq=>zQ (by omega) hSep h hq
 by_cases hpe:p=q
 ·subst hpe
  have hl:rows=l':=by simp_all
  subst hl;refine fin (ACm (k:=r.n) L z9 ad rows.length cap p w ARq hle) fun e w' h=> ?_
  obtain⟨rfl,rfl⟩:=h;exact⟨_,F,rfl,rfl,ho0,hSep.nodup,fun c hc=>⟨hSep.free c hc,hSep.lt c hc⟩,fun _ _=>rfl,⟨rfl,rfl,rfl,AQQ _⟩⟩
 have G4:p<q:=by omega
 rcases hcase with⟨h0,_⟩|⟨b,o,arr,ty,fr,rfl,hb,P5,hu,rfl,q8⟩
 ·omega
 have hbT: ¬E.T b:=hSep.free b (by simp);have ADr:b<w.heap.size:=hSep.lt b (by simp);have yH:=AVi.1 hSep.nodup;have yK:css.flatten.length=rows.length*r.n:=by rw[IC hd.2.2.1,hd.1]
 have g1:(rows.length-q)*r.n=rows.length*r.n-q*r.n:=AU5 ..;have g2:(q-p)*r.n=q*r.n-p*r.n:=AU5 ..;have g3:q*r.n≤rows.length*r.n:=APC _ ARq;have g4:p*r.n≤q*r.n:=APC _ AOT;have g5:(p+(rows.length-q))*r.n=p*r.n+(rows.length-q)*r.n:=ASz ..;have g6:rows.length*r.n≤cap*r.n:=APC _ hle;have hzr:Ej r≠[]:=fun h=>by simp_all
 have hZ:(Builtin.zeroCells z.cells (q-p)).toList=(List.replicate (q-p) (Ej r)).flatten:=by
  grind[Builtin.zeroCells,Wx,Ej,Gy]
 have hZl:((List.replicate (q-p) (Ej r)).flatten).length=(q-p)*r.n:=by rw[HI,Gy]
 have hZ1:∀v∈(List.replicate (q-p) (Ej r)).flatten,v.oneCell' =true:=fun v hv=>by
  obtain⟨c,hc1,hc2⟩:=ASb.1 hv;rw[AS9 hc1]at hc2;exact lk (w:=w) (S:=E.S) (d:=0) (fD mb) v hc2
 have jK:=AED (ρ:=ρ) L (i0:=i0) (z:=z) i1 i4 b o rows.length cap p q css.flatten _ w G4 ARq hle (by simp_all) q8 (by grind[Vg,mk]) hd.one hZ (by simp_all) hZ1;refine fin jK fun e w' h=> ?_
 obtain⟨rfl,W,sx,hWg,rfl⟩:=h;rw[i2];have hA:(css.flatten.take (p*r.n)).length=p*r.n:=by grind
 have hB:(css.flatten.drop (q*r.n)).length=(rows.length-q)*r.n:=by simp_all
 have hbW:W.heap[b]? =some (.cells arr ty fr):=by simp_all
 have hcA:BX W b o (css.flatten.take (p*r.n)):=BX.heap (fun j v hj=>by
  rw[AVI]at hj;split at hj
  ·exact q8 j v hj
  simp_all) sx
 obtain⟨Kt,q1,q2,q3⟩:=ji (B:=(List.replicate (q-p) (Ej r)).flatten) (V:=css.flatten.drop (q*r.n)) hbW (by omega) hcA;rw[hA,hB,←g5]at q1 q3
 generalize rp:(W.setCells b (o+p*r.n) (css.flatten.drop (q*r.n))).setCells b (o+(p+(rows.length-q))*r.n) ((List.replicate (q-p) (Ej r)).flatten)=w' at q1 q3
 have ed:∀c,c≠b→w'.heap[c]? =w.heap[c]?:=fun c hc=>by grind[DR]
 have hcT:∀c,E.T c→c≠b:=fun c hc e=>hbT (e▸hc)
 have hra:=((hd.take p).append (hd.drop q)).mono (w':=w') (S':=E.S) (fun _ h=>h) (fun c hc=>ed c (hcT c (hSep.st c hc))) (fun c hc=>ed c (fun e=>yH.1 (e▸(WE AOT).subset hc)));rw[iV]at hra;have xJ:l'.length=p+(rows.length-q):=by grind
 refine⟨_,b::(Fs1.take p++Fs1.drop q).flatten,rfl,rfl,?_,?_,fun c hc=> ?_,fun c hc=>ed c (hcT c hc),?_⟩
 ·have Zi:css.length=rows.length:=hd.1
  have:=j8 (cap:=cap) hra q1 (by
   rw[AS6,←ACL hd.2.2.1 p (by omega),←ABS hd.2.2.1 q (by omega)];intro j v hj;exact q3 j v (by grind)) (by omega) (by omega) (by simp_all)
  simp_all
 ·grind[List.nodup_cons,WE]
 ·have AY4:w'.heap.size=w.heap.size:=by grind[Da]
  rcases ARi.1 hc with rfl|hc
  ·simp_all
  ·have hm:c∈b::Fs1.flatten:=AXK _ ((WE AOT).subset hc)
   exact⟨hSep.free c hm,by rw[AY4];exact hSep.lt c hm⟩
 grind[Grown.trans',B9]
end Go.Fw
end
section
namespace Go.Fw
open Go.M Go.Proofs Go.Shelf Go.RowKit Go.Lib
section
variable{P:Program} {ρ:Ren} {nm:String} {fv:Func}
theorem RY{t:TypeId}{n:Nat}(h:(P.info? t).map (·.size)=some n):∀w,(Go.sizeOf t).run P w= .ok n w:=fun w=>by
 obtain⟨i,hi,rfl⟩:=AND.1 h;simp[sizeOf,typeInfo,hi]
theorem Zj{t:TypeId}{z:Value}(h:(P.info? t).bind (·.zero)=some z):∀w,(zeroValue t).run P w= .ok z w:=fun w=>by
 obtain⟨i,hi,hz⟩:=ANU.1 h;simp[zeroValue,typeInfo,hi,hz]
structure mC (P:Program) (ρ:Ren):Prop where
 t0:P.underlying (ρ.t 0)=some (TypeDesc.tuple #[])
 t3:P.underlying (ρ.t 3)=some (TypeDesc.int IntKind.i64)
 t4:P.underlying (ρ.t 4)=some (TypeDesc.bool)
 t24:P.underlying (ρ.t 24)=some (TypeDesc.slice (ρ.t 9))
 s0:(P.info? (ρ.t 0)).map (·.size)=some 1
 s3:(P.info? (ρ.t 3)).map (·.size)=some 1
 s4:(P.info? (ρ.t 4)).map (·.size)=some 1
 gn:(P.info? (ρ.t 24)).map (·.size)=some 1
 v0:(P.info? (ρ.t 0)).bind (·.zero)=some (Value.tuple #[])
 v3:(P.info? (ρ.t 3)).bind (·.zero)=some (Value.int IntKind.i64 0)
 v4:(P.info? (ρ.t 4)).bind (·.zero)=some (Value.bool false)
 v24:(P.info? (ρ.t 24)).bind (·.zero)=some (Value.slice none 0 0)
theorem mC.ins(h:mC P ρ)(hm:P.follows .mixedOrders=true)(f22:P.funcs[ρ.f 22]? =some { Body2.n22 ρ with name:=nm })(n22:(nm== "runtime.NumGoroutine")=false)(f29:P.funcs[ρ.f 29]? =some fv)(n29:(fv.name== "runtime.NumGoroutine")=false)
  (b29:fv.body.isNone=true) (e29:Extern.findNext fv=none) (x29:Extern.find fv=some (Extern.SlicesOverlaps.overlaps #[(ρ.t 24),(ρ.t 24)] #[(ρ.t 4)])):eU P ρ nm fv:=
 ⟨hm,f22,n22,f29,n29,b29,e29,x29,h.t0,run_isAgg_plain h.t0 rfl,RY h.s0,Zj h.v0,h.t3,run_isAgg_plain h.t3 rfl,RY h.s3,Zj h.v3,h.t4,run_isAgg_plain h.t4 rfl,RY h.s4,Zj h.v4,h.t24,run_isAgg_plain h.t24 rfl,RY h.gn,Zj h.v24⟩
theorem mC.del(h:mC P ρ)(hm:P.follows .mixedOrders=true)(f24:P.funcs[ρ.f 24]? =some { Body2.n24 ρ with name:=nm })(n24:(nm== "runtime.NumGoroutine")=false):oW P ρ nm:=
 ⟨hm,f24,n24,h.t0,run_isAgg_plain h.t0 rfl,RY h.s0,Zj h.v0,h.t3,run_isAgg_plain h.t3 rfl,RY h.s3,Zj h.v3,h.t4,run_isAgg_plain h.t4 rfl,RY h.s4,Zj h.v4,h.t24,run_isAgg_plain h.t24 rfl,RY h.gn,Zj h.v24⟩
@[reducible] def Jw (f22 f24 f29 f30 t24 t9:Nat):Ren:=⟨fun k=>if k=22 then f22 else if k=24 then f24 else if k=29 then f29 else if k=30 then f30 else k,fun k=>if k=24 then t24 else if k=9 then t9 else k,fun k=>k⟩
def AO2{T:J8}(hT:Ei P T)(L:eU P ρ nm fv){r:Ty}{f:Nat}(hf:ρ.f 22=f)(Vb:T.Nv (ρ.t 24) r=true)(hr:(r.flat&&(decide (mk r=1)&&decide (0<r.n)))=true)(g:(sv r).Cu (Option (xV r).V))
  (hg:∀v:(sv r).V,(sv r).un g v=(vX v.1.2.1 v.1.2.2.1 v.2.1).map fun l=>(((),()),((),l,()))):SP P:=
 ⟨f,⟨sv r,xV r,(sv r).un g⟩,by
  simp only[ANN,AOH]at hr;rw[funext hg,←hf];grind[tY]⟩
def AYg{T:J8}(hT:Ei P T)(L:oW P ρ nm){r:Ty}{f:Nat}(m:Nat)(hf:ρ.f 24=f)(Vb:T.Nv (ρ.t 24) r=true)(hr:decide (0<r.n)=true)(g:(sd (m+1) r).Cu (Option (yM (m+1) r).V))
  (hg:∀v:(sd (m+1) r).V,(sd (m+1) r).un g v=(AFb v.1.2.1 v.1.2.2.1 v.2.1).map fun l=>(((),()),((),l,()))):SP P:=
 ⟨f,⟨sd (m+1) r,yM (m+1) r,(sd (m+1) r).un g⟩,by
  rw[funext hg,←hf];exact uP hT L Vb (of_decide_eq_true hr) m⟩
end
end Go.Fw
end
