/- The framework, part 2: a checked interpreter of the model's code over abstract states; no claim is made here. -/
import Derived.Test.YtdkfcaidapdecaaGreatF0
import Derived.Below
import Derived.ChangeArms
import Derived.ChangeOld
import Derived.DataReads
import Derived.OrdersHeld
import Derived.Shelf.Slices.Delete
import Derived.Shelf.Spec.SlicesInsertGrow
import Derived.Tactics
set_option linter.unusedVariables false
set_option linter.unusedSimpArgs false
set_option linter.unusedSectionVars false
section
namespace Go.Fw
def alive(l:List BP)(i:Nat):Bool:=
 match l[i]? with
 |some .gone=>false
 |some _=>true
 |none=>false
def AP.LZ(l:List BP):AP→Bool
 | .sl s _=>s
 | .mV _=>false
 | .kj _ _=>false
 | .qG _ _=>false
 | .ref i=>decide (i<l.length)
 | .ptr i _=>alive l i
 | .fn _ Kg=>Kg.all (alive l)
 |_=>true
def XP.LZ(l:List BP):XP→Bool
 | .c p=>p.LZ l
 | .agg q=>q.all (AP.LZ l)
 | .NA q=>q.all fun| .inl p=>p.LZ l| .inr q=>q.all (AP.LZ l)
 | .row _=>false
def BP.LZ(l:List BP):BP→Bool
 | .mem q=>q.all (AP.LZ l)
 |_=>true
def kinds:List BP→List BP→Bool
 |[],_=>true
 | .mem _::l,.mem _::m=>kinds l m
 | .sl _ r::l,.sl _ q::m=>decide (r=q)&&kinds l m
 | .mem _::l,.gone::m=>kinds l m
 | .sl _ _::l,.gone::m=>kinds l m
 |_,_=>false
def jy(l:List BP):List (Nat×XP)→Bool
 |[(0,p)]=>p.LZ l
 |_=>false
def Pj.ok(c:Pj):Bool:=
 kinds c.ins.Gr c.outs.Gr&&jy c.outs.Gr c.outs.Dr&&c.outs.Gr.all (BP.LZ c.outs.Gr)
theorem W9:∀{l m:List BP},kinds l m=true→l.length≤m.length∧ ∀(i:Nat) p,l[i]? =some p→p≠ .gone∧ ∀d r,m[i]? =some (.sl d r)→ ∃d',p= .sl d' r
 |[],m,_=>⟨by simp,fun i p h=>by simp at h⟩
 | .gone::l,[],h=>by simp[kinds]at h
 | .gone::l,_::_,h=>by simp[kinds]at h
 | .mem _::l,[],h=>by simp[kinds]at h
 | .sl _ _::l,[],h=>by simp[kinds]at h
 | .mem q::l,.mem _::m,h=>by
  obtain⟨h1,h2⟩:=W9 (l:=l) (m:=m) (by simpa[kinds]using h);grind
 | .mem q::l,.gone::m,h=>by
  obtain⟨h1,h2⟩:=W9 (l:=l) (m:=m) (by simpa[kinds]using h);grind
 | .mem q::l,.sl _ _::m,h=>by simp[kinds]at h
 | .sl d0 r0::l,.sl _ q::m,h=>by
  simp only[kinds,ALo,ANR]at h;obtain⟨h1,h2⟩:=W9 (l:=l) (m:=m) h.2;grind
 | .sl d0 r0::l,.gone::m,h=>by
  obtain⟨h1,h2⟩:=W9 (l:=l) (m:=m) (by simpa[kinds]using h);grind
 | .sl _ _::l,.mem _::m,h=>by simp[kinds]at h
def Wt(P:Program)(f:Nat)(c:Pj):Prop:=
 c.ok=true∧(∀args w,(callFunc f args).run P w= .ok (.enter f args) w)∧
 ∀(E:Env) (w:World) (v:c.ins.V) (args:Array Value) (u:c.outs.V),args.size=c.ins.Dr.length→
  C7 E w (Jr.mk id c.ins.Gr v.2) (Jr.mk id c.ins.Gr v.2) []→OG E w (Jr.mk id c.ins.Gr v.2) id c.ins.Dr v.1 args.toList→c.g v=some u→
  Calls P f args w fun e w' => ∃x E',e= .returned x∧cl E w E' w'∧C7 E' w' (Jr.mk id c.outs.Gr u.2) (Jr.mk id c.outs.Gr u.2) []∧
   OG E' w' (Jr.mk id c.outs.Gr u.2) id c.outs.Dr u.1 [x]∧ ∀i,i<c.ins.Gr.length→alive c.outs.Gr i=true→E'.Hz i=E.Hz i∧E'.Hy i=E.Hy i
theorem hY:∀x:AV,Ge [] x=x
 | .ref b (s::p)=>by rfl
 | .ref b []=>rfl
 | .win b (s::p) i n=>by rfl
 | .win b [] i n=>rfl
 | .Je b (s::p) i sz j=>by rfl
 | .Je b [] i sz j=>rfl
 | .v _ _=>rfl
 | .sl _ _ _=>rfl
 | .nil=>rfl
 | .IX _ _=>rfl
 | .PO _ _ _ _=>rfl
 | .fn _ _=>rfl
 | .qG _ _=>rfl
 | .xB=>rfl
 | .undef=>rfl
theorem Zf:Ge []=id:=funext hY
theorem sb:∀x:XV,U3 [] x=x
 | .c x=>by simp[U3,hY]
 | .agg l=>by simp[U3,Zf]
 | .NA l=>by
  simp only[U3,Zf];congr 1
  conv=>rhs;rw[←List.map_id l]
  apply AQs;intro x _;cases x with
  |inl x=>simp
  |inr q=>simp
theorem q8(m:PZ)(σ:St):(σ.ZY m).tm=σ.tm.map (U3 m):=by
 cases m with
 |nil=>
  simp only[St.ZY];have:U3 []=id:=funext sb;simp_all
 |cons _ _=>rfl
theorem zA(m:PZ)(σ:St):(σ.ZY m).bx=σ.bx.map (Bx.map (Ge m)):=by
 cases m with
 |nil=>grind[St.ZY,Zf,Zr]
 |cons _ _=>
  rfl
theorem cz(f:AV→AV):∀(m:PZ) (bx:List Bx),Cs (bx.map (Bx.map f)) m=(Cs bx m).map (Bx.map f)
 |[],_=>rfl
 |none::m,bx=>by simp only[Cs];exact cz f m bx
 |some b::m,bx=>by
  simp only[Cs];rw[←cz f m (bx.set b .dead),List.map_set];rfl
theorem Q6:∀{m:PZ} {bx:List Bx} {b:Nat},some b∉m→(Cs bx m)[b]? =bx[b]?
 |[],_,_,_=>rfl
 |none::m,bx,b,h=>by simp only[Cs];exact Q6 (by simp_all)
 |some c::m,bx,b,h=>by
  simp only[Cs];rw[Q6 (by simp_all),AQQ (by grind)]
theorem zc{E E':Env}{w w':World}{vw vw':List Bx}{m:PZ}(k:Sz E w vw E' w' (Cs vw' m))
  (hb:∀b d' r Cx,some b∈m→vw'[b]? =some (.sl d' r Cx)→ ∃d rows,vw[b]? =some (.sl d r rows)∧List.length Cx=List.length rows∧E'.Hy b=E.Hy b) (hlen:vw.length≤vw'.length) {x:AV} {v:Value} (h:VR E w vw x v):VR E' w' vw' (Ge m x) v:=by
 have h1:=GD k h;have cP:∀{b'},some b'∉m→(Cs vw' m)[b']? =vw'[b']?:=fun e=>Q6 e
 have get:∀{b'},b'<vw.length→ ∃B,vw'[b']? =some B:=fun hl=>⟨_,ALD (by omega)⟩
 cases x with
 |v t x=>exact h1
 |sl s r x=>exact h1
 |nil=>exact h1
 |IX c j=>exact⟨by simpa[KW]using h1.1,h1.2⟩
 |PO s r x j=>exact h1
 |fn f Kg=>exact⟨fun c hc=>by simpa[KW]using h1.1 c hc,h1.2⟩
 |qG f rows=>exact h1
 |xB=>exact h1
 |undef=>trivial
 |ref c p=>
  have other:some c∉m→VR E' w' vw' (.ref c p) v:=fun e=>by
   grind[VR]
  cases p with
  |nil=>
   simp only[Ge];by_cases e:some c∈m
   ·simp only[VR]at h⊢
    obtain⟨h0,h⟩:=h;refine⟨h0,?_⟩;cases hc:vw[c]? with
    |none=>simp_all
    |some B=>
     obtain⟨B',Tb⟩:=get (ALO.1 hc).1;rw[Tb];cases B' with
     |mem cs=>trivial
     |dead=>trivial
     |sl d' r Cx=>
      obtain⟨d,rows,e1,e2,e3⟩:=hb c d' r Cx e Tb;rw[e1]at h;refine⟨by simp[C_],⟨_,rfl⟩,?_⟩;grind[C4]
   simp_all
  |cons s p=>
   simp only[Ge];split
   ·trivial
   simp_all
 |win c p off n=>
  have other:some c∉m→VR E' w' vw' (.win c p off n) v:=fun e=>by
   grind[VR]
  cases p with
  |nil=>
   simp only[Ge];by_cases e:some c∈m
   ·simp only[VR]at h⊢
    obtain⟨h0,h⟩:=h;refine⟨h0,?_⟩;cases hc:vw[c]? with
    |none=>simp_all
    |some B=>
     obtain⟨B',Tb⟩:=get (ALO.1 hc).1;rw[Tb];cases B' with
     |mem cs=>trivial
     |dead=>trivial
     |sl d' r Cx=>
      obtain⟨d,rows,e1,e2,e3⟩:=hb c d' r Cx e Tb;rw[e1]at h;obtain⟨_,q,ys,a,len,cap,g1,g2,g3,g4⟩:=h;simp only[G3,ALL,ANo]at g1;obtain⟨rfl,g1⟩:=g1;obtain rfl:=AQJ g1;rw[C4]at g3;exact⟨by simp[C_],r,Cx,a,len,cap,rfl,by omega,by grind[C4],g4⟩
   simp_all
  |cons s p=>
   simp only[Ge];split
   ·trivial
   simp_all
 |Je c p i sz j=>
  have other:some c∉m→VR E' w' vw' (.Je c p i sz j) v:=fun e=>by
   grind[VR]
  cases p with
  |nil=>
   simp only[Ge];by_cases e:some c∈m
   ·simp only[VR]at h⊢
    obtain⟨h0,h⟩:=h;refine⟨h0,?_⟩;cases hc:vw[c]? with
    |none=>simp_all
    |some B=>
     obtain⟨B',Tb⟩:=get (ALO.1 hc).1;rw[Tb];cases B' with
     |mem cs=>trivial
     |dead=>trivial
     |sl d' r Cx=>
      obtain⟨d,rows,e1,e2,e3⟩:=hb c d' r Cx e Tb;rw[e1]at h;obtain⟨_,q,ys,bb,o,len,cap,g1,g2,g3,g4⟩:=h;simp only[G3,ALL,ANo]at g1;obtain⟨rfl,g1⟩:=g1;obtain rfl:=AQJ g1;rw[C4]at g3;exact⟨by simp[C_],r,Cx,bb,o,len,cap,rfl,by omega,by grind[C4],g4⟩
   simp_all
  |cons s p=>
   simp only[Ge];split
   ·trivial
   simp_all
theorem zn{E E':Env}{w w':World}{vw vw':List Bx}{m:PZ}(k:∀x v,VR E w vw x v→VR E' w' vw' (Ge m x) v){x:XV}{v:Value}(h:XR E w vw x v):XR E' w' vw' (U3 m x) v:=by
 cases x with
 |c x=>exact k x v h
 |agg l=>
  obtain⟨vs,rfl,Vt⟩:=h;exact⟨vs,rfl,CR.Ly _ k Vt⟩
 |NA l=>
  obtain⟨vs,rfl,Vt⟩:=h;refine⟨vs,rfl,CR.Ly _ (fun x v hx=> ?_) Vt⟩;cases x with
  |inl x=>exact k x v hx
  |inr q=>
   obtain⟨us,rfl,hus⟩:=hx;exact⟨us,rfl,CR.Ly _ k hus⟩
def L6(Jc:Nat→Nat):Nat→List Bx→List Bx→List Bx
 |_,[],bx=>bx
 |i,B::l,bx=>L6 Jc (i+1) l (if Jc i<bx.length then bx.set (Jc i) B else bx++[B])
theorem lD(Jc:Nat→Nat):∀(i:Nat) (l:List BP) (x:Jr.V l) (bx:List Bx),Zz Jc i l x bx=L6 Jc i (Jr.mk Jc l x) bx
 |_,[],_,_=>rfl
 |i,p::l,x,bx=>by simp only[Zz,Jr.mk,L6];exact lD Jc (i+1) l x.2 _
structure uo (Jc:Nat→Nat) (M N:Nat):Prop where
 lt:∀k,k<M→Jc k<N
 eq:∀k,M≤k→Jc k=N+(k-M)
 inj:∀k k',k<M→k'<M→Jc k=Jc k'→k=k'
theorem uo.ATO{Jc:Nat→Nat}{M N:Nat}(h:uo Jc M N){k k':Nat}(e:Jc k=Jc k'):k=k':=by
 by_cases h1:k<M
 ·by_cases h2:k'<M
  ·exact h.inj k k' h1 h2 e
  ·have:=h.lt k h1
   have:=h.eq k' (by omega);omega
 ·by_cases h2:k'<M
  ·have:=h.lt k' h2
   have:=h.eq k (by omega);omega
  ·have:=h.eq k (by omega)
   have:=h.eq k' (by omega);omega
theorem fO{Jc:Nat→Nat}{M N:Nat}(h:uo Jc M N):∀{l:List Bx} {i:Nat} {bx:List Bx},bx.length=N+(i-M)→
  (L6 Jc i l bx).length=N+(i+l.length-M)∧(∀(j:Nat) B,l[j]? =some B→(L6 Jc i l bx)[Jc (i+j)]? =some B)∧
   ∀n,n<bx.length→(∀j,j<l.length→Jc (i+j)≠n)→(L6 Jc i l bx)[n]? =bx[n]?
 |[],i,bx,hl=>⟨by grind[L6],fun j B hj=>by simp_all,fun _ _ _=>rfl⟩
 |B::l,i,bx,hl=>by
  simp only[L6];have ic:(if Jc i<bx.length then bx.set (Jc i) B else bx++[B]).length=N+(i+1-M):=by
   split
   ·rename_i Hw
    by_cases hi:i<M
    ·grind
    ·have:=h.eq i (by omega);omega
   ·rename_i Hw
    by_cases hi:i<M
    ·have:=h.lt i hi;omega
    grind
  have Zy:(if Jc i<bx.length then bx.set (Jc i) B else bx++[B])[Jc i]? =some B:=by
   split
   ·simp_all
   ·rename_i Hw
    by_cases hi:i<M
    ·grind
    ·have:=h.eq i (by omega)
     grind
  obtain⟨q1,q2,q3⟩:=fO h (l:=l) ic;refine⟨by grind,fun j C hj=> ?_,fun n hn cq=> ?_⟩
  ·cases j with
   |zero=>
    simp at hj;subst hj;exact(q3 (Jc i) (ALO.1 Zy).1 (fun j hj e=>by have:=h.ATO e;omega)).trans Zy
   |succ j=>
    grind
  ·have AWJ:=cq 0 (by simp)
   rw[AQ2]at AWJ;rw[q3 n (by omega) (fun j hj=>by have:=cq (j+1) (by simp_all);grind)];grind
theorem dA{Jc:Nat→Nat}{M N:Nat}(h:uo Jc M N){E:Env}{w:World}{vw:List Bx}:∀{l:List Bx} {i:Nat} {bx:List Bx} {Fs:List AAs},bx.length=N+(i-M)→(∀k,i≤k→k<M→bx[Jc k]? =some .dead)→
  Fs.length=l.length→(∀(j:Nat) B F,l[j]? =some B→Fs[j]? =some F→pZ E w vw (Jc (i+j)) B F)→C7 E w vw bx Fs.flatten→C7 E w vw (L6 Jc i l bx) []
 |[],i,bx,Fs,hl,hd,hF,hB,tv=>by
  grind[List.eq_nil_of_length_eq_zero,L6]
 |B::l,i,bx,F::Fs,hl,hd,hF,hB,tv=>by
  simp only[L6];have hBi:=hB 0 B F rfl rfl;rw[AQ2]at hBi;have next:∀{Qd},Qd.length=N+(i+1-M)→(∀k,i+1≤k→k<M→Qd[Jc k]? =some .dead)→C7 E w vw Qd Fs.flatten→C7 E w vw (L6 Jc (i+1) l Qd) []:=by
   intro Qd h1 h2 h3;refine dA h h1 h2 (by simp_all) (fun j C G hC hG=> ?_) h3;have:=hB (j+1) C G (by simp_all) (by simp_all);grind
  rw[AQ1]at tv;by_cases hi:i<M
  ·have Hw:=h.lt i hi
   rw[ALC (by omega)];refine next (by grind) (fun k hk1 hk2=> ?_) (tv.put (hd i (APM _) hi) hBi);rw[AQQ (fun e=>by have:=h.ATO e;omega)];grind
  ·have heq:=h.eq i (by omega)
   rw[ALG (by omega)];have e1:Jc i=bx.length:=by omega
   rw[e1]at hBi;exact next (by grind) (fun k hk1 hk2=>by omega) (tv.push hBi)
 |_::_,_,_,[],_,_,hF,_,_=>by simp_all
structure sA (E' E2:Env) (l:List BP) (u:Jr.V l) (vw2:List Bx) (Jc:Nat→Nat):Prop where
 ids:∀i,alive l i=true→E2.Hz (Jc i)=E'.Hz i∧E2.Hy (Jc i)=E'.Hy i
 bx:∀(i:Nat) p,l[i]? =some p→ ∃y,(Jr.mk id l u)[i]? =some (p.mk id y)∧vw2[Jc i]? =some (p.mk Jc y)
 S:E2.S=E'.S
theorem bO(Jc:Nat→Nat):∀{l:List BP} {u:Jr.V l} {i:Nat} {p:BP},l[i]? =some p→ ∃y:p.V,(Jr.mk id l u)[i]? =some (p.mk id y)∧(Jr.mk Jc l u)[i]? =some (p.mk Jc y)
 |q::l,u,0,p,h=>by
  simp at h;subst h;exact⟨u.1,rfl,rfl⟩
 |q::l,u,i+1,p,h=>by
  obtain⟨y,h1,h2⟩:=bO Jc (u:=u.2) (i:=i) (by simpa using h);grind[Jr.mk]
 |[],_,_,_,h=>by simp at h
theorem T1(Jc:Nat→Nat):∀{l:List BP} {u:Jr.V l},(Jr.mk Jc l u).length=l.length
 |[],_=>rfl
 |_::l,u=>by simp[Jr.mk,T1 Jc (l:=l)]
section
variable{E' E2:Env} {w:World} {l:List BP} {u:Jr.V l} {vw2:List Bx} {Jc:Nat→Nat} (r:sA E' E2 l u vw2 Jc)
include r
omit r in
theorem rl{i:Nat}(h:alive l i=true):∃p,l[i]? =some p∧p≠ .gone:=by
 unfold alive at h;cases e:l[i]? with
 |none=>rw[e]at h;cases h
 |some p=>
  refine⟨p,rfl,fun hp=> ?_⟩;rw[e,hp]at h;cases h
theorem xC{p:AP}{y:p.V}{v:Value}(FX:p.LZ l=true)(h:VR E' w (Jr.mk id l u) (p.mk id y) v):VR E2 w vw2 (p.mk Jc y) v:=by
 cases p with
 |v t=>exact h
 |sl s q=>
  simp only[AP.LZ]at FX;subst FX;simp only[AP.mk,VR,AQV]at h⊢;rw[r.S];omega
 |nil=>exact h
 |ref i=>
  simp only[AP.LZ,ANR]at FX;obtain⟨p,hp⟩:∃p,l[i]? =some p:=⟨_,ALD FX⟩;obtain⟨z,z1,z2⟩:=r.bx i p hp;simp only[AP.mk,VR,id]at h⊢;refine⟨h.1,?_⟩;have h2:=h.2;rw[z1]at h2;rw[z2];cases p with
  |mem q=>trivial
  |gone=>trivial
  |sl d q=>
   have hid:=(r.ids i (by simp[alive,hp])).2;grind[BP.mk]
 |ptr i j=>
  simp only[AP.LZ]at FX;obtain⟨p,hp,hg⟩:=rl FX;obtain⟨z,z1,z2⟩:=r.bx i p hp;refine⟨(ALO.1 z2).1,?_⟩;rw[(r.ids i FX).1];exact h.2
 |mV q=>simp[AP.LZ]at FX
 |kj i sz=>simp[AP.LZ]at FX
 |qG f rs=>simp[AP.LZ]at FX
 |fn f Kg=>
  simp only[AP.LZ,AQj]at FX;obtain⟨h1,h2⟩:=h;refine⟨fun b hb=> ?_,?_⟩
  ·obtain⟨i,hi,rfl⟩:=AQ0.1 hb
   obtain⟨p,hp,_⟩:=rl (FX i hi);obtain⟨z,_,z2⟩:=r.bx i p hp;grind
  ·rw[h2,ARt]
   congr 2
   rw[ARt];apply AQs;intro i hi;simp only[Function.comp,id,(r.ids i (FX i hi)).1]
 |any=>trivial
theorem nD:∀{q:List AP} {y:Xt.V q} {vs:List Value},q.all (AP.LZ l)=true→i7 E' w (Jr.mk id l u) (Xt.mk id q y) vs→i7 E2 w vw2 (Xt.mk Jc q y) vs
 |[],_,[],_,_=>trivial
 |[],_,_::_,_,h=>h.elim
 |p::q,y,[],_,h=>h.elim
 |p::q,y,v::vs,FX,h=>by
  simp only[AQr,ALo]at FX;exact⟨xC r FX.1 h.1,nD FX.2 h.2⟩
theorem sY:∀{q:List (AP ⊕ List AP)} {y:YS.V q} {vs:List Value},(q.all fun| .inl p=>p.LZ l| .inr q=>q.all (AP.LZ l))=true→CR (TR E' w (Jr.mk id l u)) (YS.mk id q y) vs→CR (TR E2 w vw2) (YS.mk Jc q y) vs
 |[],_,[],_,_=>trivial
 |[],_,_::_,_,h=>h.elim
 | .inl p::q,y,[],_,h=>h.elim
 | .inr p::q,y,[],_,h=>h.elim
 | .inl p::q,y,v::vs,FX,h=>by
  simp only[AQr,ALo]at FX;exact⟨xC r FX.1 h.1,sY FX.2 h.2⟩
 | .inr p::q,y,v::vs,FX,h=>by
  simp only[AQr,ALo]at FX;obtain⟨us,e,hus⟩:=h.1;exact⟨⟨us,e,nD r FX.1 hus⟩,sY FX.2 h.2⟩
theorem AM4{p:XP}{y:p.V}{v:Value}(FX:p.LZ l=true)(h:XR E' w (Jr.mk id l u) (p.mk id y) v):XR E2 w vw2 (p.mk Jc y) v:=by
 cases p with
 |c p=>exact xC r FX h
 |agg q=>
  obtain⟨vs,e,Vt⟩:=h;exact⟨vs,e,nD r FX Vt⟩
 |row q=>simp[XP.LZ]at FX
 |NA q=>
  obtain⟨vs,e,Vt⟩:=h;exact⟨vs,e,sY r FX Vt⟩
theorem AOV{i:Nat}{p:BP}{y:p.V}{F:AAs}(hi:l[i]? =some p)(FX:p.LZ l=true)(h:pZ E' w (Jr.mk id l u) i (p.mk id y) F):pZ E2 w vw2 (Jc i) (p.mk Jc y) F:=by
 cases p with
 |mem q=>
  obtain⟨h1,arr,ty,fr,h2,h3,h4⟩:=h;have hid:=(r.ids i (by simp[alive,hi])).1;exact⟨by simp_all,arr,ty,fr,by simp_all,h3,nD r FX h4⟩
 |sl d q=>
  obtain⟨h1,h2⟩:=h;refine⟨h1,?_⟩;rw[(r.ids i (by simp[alive,hi])).2,r.S];omega
 |gone=>exact h
end
end Go.Fw
end
section
namespace Go.Fw
theorem tP{s:A5}{N:Nat}{m0 m:PZ}{tm:List XV}{bx:List Bx}{x:s.V}(e:s.fit N m0 tm bx=some (x,m)):∀(k:Nat) p,s.Gr[k]? =some p→p≠ .gone→ ∃b B,m[k]? =some (some b)∧bx[b]? =some B∧B≠ .dead∧
  ∀d r,p= .sl d r→ ∃d' rows,B= .sl d' r rows:=by
 simp only[A5.fit,ALe,ALN]at e;obtain⟨m1,e1,m2,e2,a,e3,c,e4,e5⟩:=e;cases e5;obtain⟨q1,q2⟩:=SF (Jc:=id) e4;grind
theorem ACh(n:Nat):pn (List.replicate n none):=fun i j b h=>by
 grind
theorem wy{w:World}{B B':Nat→Prop}{w':World}{r:Ty}{v:Value}{x y:List r.D}(h:Rd w B (.sl r) [v] x)(h':Rd w' B' (.sl r) [v] y):y.length=x.length:=by
 simp only[Rd]at h h';grind
section
variable{Y:Type} {P:Program} {E:Env} {σ:St} {a:Act} {w:World} {k:K Y} {y:Y}
theorem qO{E' E2:Env}{l:List BP}{u:Jr.V l}{vw2:List Bx}{Jc:Nat→Nat}(r:sA E' E2 l u vw2 Jc):∀{sl:List (Nat×XP)} {z:Gy.V sl} {x:Value},
  jy l sl=true→OG E' w (Jr.mk id l u) id sl z [x]→XR E2 w vw2 (eH sl z Jc) x
 |[(0,p)],z,x,FX,h=>by
  obtain⟨⟨v,hv,hx⟩,_⟩:=h;simp at hv;subst hv;exact AM4 r FX hx
 |[],_,_,FX,_=>by simp[jy]at FX
 |(_+1,_)::_,_,_,FX,_=>by simp[jy]at FX
 |(0,_)::_::_,_,_,FX,_=>by simp[jy]at FX
def eN(c:Pj)(xs:List XV)(σ:St):AAs:=
 match c.ins.fit σ.bx.length c.ins.m0 xs (c.ins.opens σ.bx)with
 |some (_,m)=>m.filterMap id
 |none=>[]
theorem rb(h:Rel E σ a w)(s:A5):∃E',Rel E' { σ with bx:=s.opens σ.bx } a w∧RP [] E σ.bx w E' (s.opens σ.bx) w∧(∀(i:Nat) d r,s.Gr[i]? =some (.sl d r)→E'.Hy (σ.bx.length+i)= .slice none 0 0)∧
  (∀x v,XR E w σ.bx x v→XR E' w (s.opens σ.bx) x v):=by
 let E':Env:={ E with Hy:=fun k=>if k<σ.bx.length then E.Hy k else .slice none 0 0 }
 have hlen:σ.bx.length≤(s.opens σ.bx).length:=by simp[A5.opens]
 have hold:∀b,b<σ.bx.length→(s.opens σ.bx)[b]? =σ.bx[b]?:=fun b hb=>by grind[A5.opens,List.getElem?_append_left]
 have mG:∀b,b<σ.bx.length→E'.Hy b=E.Hy b:=fun b hb=>by grind
 have keep:Sz E w σ.bx E' w (s.opens σ.bx):=
  ⟨hlen,fun _ _=>rfl,fun _ h=>h,fun _ h=>h,h.bx.st,fun _ _=>rfl,fun b d r rows hb e=>⟨d,rows,by simp_all,fun p hp q ys hg=>⟨hp,⟨ys,hg,rfl⟩,fun hh he=>by simp_all⟩⟩⟩
 obtain⟨Fs,⟨f1,f2⟩,f3⟩:=h.bx;refine⟨E',⟨h.Ns,h.tm.imp fun _ _ hx=>O_ keep hx,?_⟩,?_,fun i d r hi=>by grind,fun x v hx=>O_ keep hx⟩
 ·refine⟨Fs++List.replicate s.Gr.length [],⟨by simp[A5.opens,f1],fun n B F hB hF=> ?_⟩,?_⟩
  ·by_cases hn:n<σ.bx.length
   ·rw[hold n hn]at hB
    rw[AOh (by omega)]at hF;have:=f2 n B F hB hF;cases B with
    |mem cs=>
     obtain⟨rfl,arr,ty,fr,a1,a2,a3⟩:=this;exact⟨rfl,arr,ty,fr,a1,a2,a3.imp fun _ _ hv=>GD keep hv⟩
    |sl d r rows=>exact⟨this.1,by rw[mG n hn];exact this.2⟩
    |dead=>exact this
   ·rw[APH (by omega)]at hF
    have hF':F=[]:=AQw (AO9 hF);subst hF';simp only[A5.opens]at hB;rw[APH (by omega),AQN,ALN]at hB;obtain⟨p,_,rfl⟩:=hB;have hh:E'.Hy n= .slice none 0 0:=by grind
    cases p with
    |mem q=>rfl
    |gone=>rfl
    |sl d r=>exact⟨by omega,by rw[hh];exact p9⟩
  ·have:(Fs++List.replicate s.Gr.length []).flatten=Fs.flatten:=by simp
   rw[this];exact⟨f3.nodup,f3.free,f3.lt,f3.st,f3.cX⟩
 ·refine⟨⟨fun _ h=>h,fun _ h=>h,fun _ h=> .inl h,fun _ h=> .inl h,fun _ _=>rfl,rfl,rfl,rfl,APM _⟩,hlen,fun b hb=>⟨rfl,mG b hb⟩,fun b hb=> ?_,fun n B B' _ hB Tb hd=> ?_⟩
  ·grind
  ·rw[hold n (ALO.1 hB).1,hB]at Tb
   cases Tb;exact⟨VB.refl hd,fun _ _=>rfl⟩
theorem RP.after{t:AAs}{E E' E'':Env}{bx Qd AU1:List Bx}{w w':World}(h:RP [] E bx w E' Qd w)(hb:∀b,b<bx.length→Qd[b]? =bx[b]?)(k:RP t E' Qd w E'' AU1 w'):RP t E bx w E'' AU1 w':=
 ⟨h.base.trans k.base,AQL h.len k.len,fun b Hw=>⟨(k.ids b (AQZ Hw h.len)).1.trans (h.ids b Hw).1,(k.ids b (AQZ Hw h.len)).2.trans (h.ids b Hw).2⟩,fun b hd=>k.dead b (h.dead b hd),fun n B B' hn hB Tb hd=>by
  have Hw:=(ALO.1 hB).1;obtain⟨k1,k2⟩:=k.frame n B B' hn (by simp_all) Tb hd;refine⟨k1,fun c hc=>k2 c ?_⟩;cases B with
  |mem cs=>simp only[wF]at hc⊢;rw[(h.ids n Hw).1];omega
  |sl d r rows=>simp only[wF]at hc⊢;rw[(h.ids n Hw).2];omega
  |dead=>exact hc⟩
def AKv(c:Pj)(N:Nat)(xs:List XV)(σ:St)(k:K Y):Option Y:=
 match c.ins.fit N c.ins.m0 xs σ.bx with
 |some (v,m)=>(c.g v).bind fun u=>
  let Jc:=YP m σ.bx.length
  let σ1:=σ.ZY m
  k (eH c.outs.Dr u.1 Jc) { σ1 with bx:=Zz Jc 0 c.outs.Gr u.2 (Cs σ1.bx m) }
 |none=>none
def xo(c:Pj)(N:Nat)(xs:List XV)(σ:St):AAs:=
 match c.ins.fit N c.ins.m0 xs σ.bx with
 |some (_,m)=>m.filterMap id
 |none=>[]
theorem xd{f:Nat}{c:Pj}(hc:Wt P f c)(h:Rel E σ a w){N0:Nat}(vT:∀(i:Nat) d r,c.ins.Gr[i]? =some (.sl d r)→E.Hy (N0+i)= .slice none 0 0){xs:List XV}{vs:List Value}(hxs:CR (XR E w σ.bx) xs vs)(hlen:xs.length=c.ins.Dr.length)(e:AKv c N0 xs σ k=some y):
  Calls P f vs.toArray w fun e w' => ∃x E' xv σ',e= .returned x∧Rel E' σ' a w'∧XR E' w' σ'.bx xv x∧RP (xo c N0 xs σ) E σ.bx w E' σ'.bx w'∧σ'.tm.length=σ.tm.length∧k xv σ' =some y:=by
 obtain⟨FX,_,r9⟩:=hc;simp only[Pj.ok,ALo]at FX;obtain⟨⟨hk,hslot⟩,hbo⟩:=FX;obtain⟨hklen,hk⟩:=W9 hk;unfold AKv at e;split at e
 case h_2=>cases e
 rename_i v m dW;simp only[ALe]at e;obtain⟨u,hg,e⟩:=e;obtain⟨_,E1,hf⟩:=kE h.bx hxs vT (by simp[A5.m0]) (ACh _) dW;have PQ:vs.toArray.size=c.ins.Dr.length:=by grind[CR.len]
 refine(r9 E1 w v vs.toArray u PQ hf.boxes (by simpa using hf.Dr) hg).mono fun e' w' hR=> ?_
 obtain⟨x,E',rfl,base,⟨Fs,hFs1,hFs2⟩,Dr,ABs⟩:=hR;simp only[ANI]at hFs2;obtain⟨Fk,k1,k2,k3,k4⟩:=hf.rest;have st:=h.bx.st;have cX:=h.bx.cX;have hM:m.length=c.ins.Gr.length:=hf.len;have all:∀i,i<m.length→ ∃b B,m[i]? =some (some b)∧σ.bx[b]? =some B∧B≠ .dead∧ ∀d r,c.ins.Gr[i]? =some (.sl d r)→ ∃d' rows,B= .sl d' r rows:=by
  intro i hi;have hp:c.ins.Gr[i]? =some (c.ins.Gr[i]'(by omega)):=ALD _;grind[tP,Option.some.inj]
 let N:=σ.bx.length
 let M:=m.length
 have AGp:∀i b,m[i]? =some (some b)→YP m N i=b:=fun i b h=>by simp[YP,h]
 have ATz:∀i,M≤i→YP m N i=N+(i-M):=fun i hi=>by
  grind[List.getElem?_eq_none,YP]
 have ro:uo (YP m N) M N:=⟨fun i hi=>by
   grind,ATz,fun i j hi hj e=>by
   obtain⟨b,B,h1,h2,_⟩:=all i hi;obtain⟨b',B',h1',h2',_⟩:=all j hj;rw[AGp i b h1,AGp j b' h1']at e;subst e;exact hf.inj i j b h1 h1'⟩
 let E2:Env:={
   Hz:=fun n=>if n<N then E.Hz n else E'.Hz (M+(n-N))
   Hy:=fun n=>if n<N then E.Hy n else E'.Hy (M+(n-N))
   T:=fun c=>E.T c∨E'.S c
   S:=E'.S }
 have hS:∀c,E.S c→E'.S c:=fun d hd=>base.S d (hf.S d hd)
 have hSk:∀d∈Fk.flatten,¬E'.S d:=fun d hd hs=>by
  obtain⟨_,n2,_,n4⟩:=k3 d hd;exact(base.yH d hs).elim n2 (fun h=>h n4)
 have ACG:∀d,E.T d→w'.heap[d]? =w.heap[d]?:=fun d hd=>base.heap d (hf.T d hd)
 have AT3:∀d∈Fk.flatten,w'.heap[d]? =w.heap[d]?:=fun d hd=>base.heap d (k3 d hd).2.2.2
 have ASA:cl E w E2 w':=⟨fun d hd=> .inl hd,hS,fun d hd=>hd,fun d hd=>by
   rcases base.yH d hd with h|h
   ·exact hf.yH d h
   ·exact .inr fun ht=>h (hf.T d ht),ACG,base.os,base.tape,base.output,base.size⟩
 let vw':=Jr.mk id c.outs.Gr u.2
 let Bs:=Jr.mk (YP m N) c.outs.Gr u.2
 let bk:=(Cs σ.bx m).map (Bx.map (Ge m))
 have hbk:Cs (σ.ZY m).bx m=bk:=by rw[zA,cz]
 have AcZ:bk.length=N:=by simp[bk,KW,N]
 let aQ:=L6 (YP m N) 0 Bs bk
 have Aa4:Zz (YP m N) 0 c.outs.Gr u.2 (Cs (σ.ZY m).bx m)=aQ:=by rw[lD,hbk]
 obtain⟨s1,s2,s3⟩:=fO ro (l:=Bs) (i:=0) (bx:=bk) (by omega);have Acx:Bs.length=c.outs.Gr.length:=T1 _;have ow:σ.bx.length≤aQ.length:=by
  grind
 have rn:sA E' E2 c.outs.Gr u.2 aQ (YP m N):=by
  refine⟨fun i hi=> ?_,fun i p hp=> ?_,rfl⟩
  ·by_cases him:i<M
   ·obtain⟨b,B,h1,h2,_⟩:=all i him
    have hbl:b<N:=(ALO.1 h2).1;have g1:=hf.ids i b h1;grind
   grind
  ·obtain⟨z,z1,z2⟩:=bO (YP m N) (u:=u.2) hp
   grind
 have ABg:∀n,n<N→some n∉m→aQ[n]? =bk[n]?:=fun n hn hm=>by
  grind
 have keep:Sz E w σ.bx E2 w' (Cs aQ m):=by
  refine⟨by rw[KW];omega,fun b hb=>by grind,fun d hd=> .inl hd,hS,st,ACG,fun b d r rows hb hq=> ?_⟩;have hbm:some b∉m:=fun hm=>by grind[V9]
  rw[Q6 hbm,ABg b hb hbm]at hq;have hq1:=ACT hq;have qZ:σ.bx[b]? =some (.sl d r rows):=by
   rcases SV (FG.refl σ.bx) b _ hq1 with e|e
   all_goals grind
  refine⟨d,rows,qZ,fun p hp q ys hgp=>⟨hp,⟨ys,hgp,rfl⟩,fun h' hh=> ?_⟩⟩;have hFk:Fk[b]? =some (Fk[b]'(by rw[k1.1,KW];omega)):=ALD _;obtain⟨_,ho⟩:=k1.2 b _ _ hq1 hFk;have e2:E2.Hy b=E.Hy b:=by grind
  grind[sx,List.mem_flatten,List.mem_of_getElem?]
 have vr:∀x v,VR E w σ.bx x v→VR E2 w' aQ (Ge m x) v:=fun x v hx=>by
  refine zc keep (fun b d' r Cx hbm hq=> ?_) ow hx;obtain⟨i,hi,him⟩:=AQS hbm;have APC:m[i]? =some (some b):=by grind
  obtain⟨b',B,h1,h2,h3,h4⟩:=all i hi;rw[APC]at h1;cases h1;have hio:i<c.outs.Gr.length:=by omega
  have hp:c.outs.Gr[i]? =some c.outs.Gr[i]:=ALD hio;obtain⟨z,z1,z2⟩:=rn.bx i _ hp;rw[AGp i b APC,hq]at z2;have AVu:c.ins.Gr[i]? =some (c.ins.Gr[i]'(by omega)):=ALD _
  generalize c.outs.Gr[i]=po at z hp z1 z2
  cases po with
  |mem q=>simp[BP.mk]at z2
  |gone=>simp[BP.mk]at z2
  |sl d0 q=>
   simp only[BP.mk,ALL,Bx.sl.injEq]at z2;obtain⟨rfl,rfl,z2⟩:=z2;obtain rfl:=AQJ z2;obtain⟨d1,hpo⟩:=(hk i _ AVu).2 _ _ hp;obtain⟨d2,rows,rfl⟩:=h4 d1 r (by simp_all);have hbl:b<N:=(ALO.1 h2).1;have eh:E2.Hy b=E.Hy b:=by grind
   refine⟨d2,rows,h2,?_,eh⟩;obtain⟨F0,hR0,_⟩:=h.bx.take h2;have hFi:Fs[i]? =some (Fs[i]'(by rw[hFs1.1,T1];omega)):=ALD _;obtain⟨_,wB⟩:=hFs1.2 i _ _ z1 hFi;have zm:alive c.outs.Gr i=true:=by simp[alive,hp]
   rw[(ABs i (by omega) zm).2,(hf.ids i b APC).2]at wB;exact wy (XH hR0.2) (XH wB)
 have gk:c.outs.Gr.all (BP.LZ c.outs.Gr)=true:=hbo;have rel:Rel E2 { tm:=(σ.ZY m).tm,bx:=aQ } a w':=by
  refine⟨h.Ns,?_,?_⟩
  ·rw[q8]
   exact CR.Ly _ (fun x v hx=>zn vr hx) h.tm
  ·refine dA ro (Fs:=Fs) (by omega) (fun i _ hi=> ?_) (by rw[hFs1.1,T1];omega) (fun j B F hB hF=> ?_) ?_
   ·obtain⟨b,B,h1,h2,_⟩:=all i hi
    rw[AGp i b h1];have hbl:b<(Cs σ.bx m).length:=by grind
    have hd:(Cs σ.bx m)[b]? =some .dead:=by
     rw[ALD hbl];exact congrArg some (V9 (AO9 h1) (ALD hbl))
    simp only[bk];rw[AQN,hd];rfl
   ·rw[AQu]
    have wI:=(ALO.1 hB).1;have hp:c.outs.Gr[j]? =some (c.outs.Gr[j]'(by omega)):=ALD _;obtain⟨z,z1,z2⟩:=bO (YP m N) (u:=u.2) hp;have Tb:Bs[j]? =_:=z2;rw[hB]at Tb;cases Tb;exact AOV rn hp (AQj.1 gk _ (AMx _)) (hFs1.2 j _ _ z1 hF)
   ·
    refine⟨Fk,⟨by simp[bk,k1.1],fun n B F hn hF=> ?_⟩,?_⟩
    ·simp only[bk]at hn
     rw[AQN,ALN]at hn;obtain⟨B0,hn,rfl⟩:=hn;have vh:n<N:=by grind
     have h3:=k1.2 n B0 F hn hF;have hFw:∀d∈F,w'.heap[d]? =w.heap[d]?:=fun d hd=>AT3 d (AQP.2 ⟨F,AO9 hF,hd⟩)
     have eb:E2.Hz n=E.Hz n:=by grind
     have eh:E2.Hy n=E.Hy n:=by grind
     cases B0 with
     |mem cs=>
      obtain⟨rfl,arr,ty,fr,ha,hu,hv⟩:=h3;exact⟨by rw[eb],arr,ty,fr,by simp_all,hu,CR.Ly _ vr hv⟩
     |sl d r rows=>
      refine⟨h3.1,?_⟩;rw[eh];exact EO hS (fun d hd=>ACG d (st d hd)) hFw h3.2
     |dead=>exact h3
    ·refine⟨AOA.2 ⟨k2,hFs2.nodup,fun x hx z hz he=> ?_⟩,fun d hd ht=> ?_,fun d hd=> ?_,fun d hd=> .inr hd,fun d hd=> ?_⟩
     ·subst he
      exact hFs2.free x hz (base.T x (k3 x hx).2.2.2)
     ·rcases AOO.1 hd with hd|hd
      ·grind
      ·rcases ht with ht|ht
       ·exact hFs2.free d hd (base.T d (hf.T d ht))
       ·exact hFs2.free d hd (hFs2.st d ht)
     ·rcases AOO.1 hd with hd|hd
      ·grind
      ·exact hFs2.lt d hd
     ·rcases hd with hd|hd
      ·grind
      ·exact hFs2.cX d (hFs2.st d hd)
 have ATb:RP (xo c N0 xs σ) E σ.bx w E2 aQ w':=by
  refine⟨ASA,ow,fun n hn=>⟨by grind,by grind⟩,fun n hn=> ?_,fun n B B' hnt hB Tb we=> ?_⟩
  rotate_left 1
  ·have vh:=(ALO.1 hB).1
   have hnm:some n∉m:=fun hm=>hnt (by
    simp only[xo,dW,List.mem_filterMap];simp_all)
   rw[ABg n vh hnm]at Tb;simp only[bk]at Tb;have hkn:(Cs σ.bx m)[n]? =some B:=by grind[Q6]
   rw[AQN,hkn]at Tb;have Tb:Bx.map (Ge m) B=B':=by simp_all
   have hFk:Fk[n]? =some (Fk[n]'(by rw[k1.1,KW];omega)):=ALD _;refine⟨?_,fun d hd=> ?_⟩
   ·subst Tb
    cases B with
    |mem cs=>trivial
    |sl d r rows=>rfl
    |dead=>exact absurd rfl we
   ·rcases eG (k1.2 n B _ hkn hFk) hd with hs|hs
    all_goals grind[List.mem_flatten,List.mem_of_getElem?]
  have vh:=(ALO.1 hn).1;have hnm:some n∉m:=fun hm=>by
   obtain⟨i,hi,him⟩:=AQS hm;grind
  rw[ABg n vh hnm];simp only[bk];rw[AQN,Q6 hnm,hn];rfl
 refine⟨x,E2,eH c.outs.Dr u.1 (YP m N),{ tm:=(σ.ZY m).tm,bx:=aQ },rfl,rel,qO rn hslot Dr,ATb,by simp[q8],?_⟩;grind
theorem AAd{f:Nat}{c:Pj}(hc:Wt P f c)(h:Rel E σ a w){xs:List XV}{vs:List Value}(hxs:CR (XR E w σ.bx) xs vs)(e:lK c xs σ k=some y):
  Calls P f vs.toArray w fun e w' => ∃x E' xv σ',e= .returned x∧Rel E' σ' a w'∧XR E' w' σ'.bx xv x∧RP (eN c xs σ) E σ.bx w E' σ'.bx w'∧σ'.tm.length=σ.tm.length∧k xv σ' =some y:=by
 unfold lK at e;split at e
 case isFalse=>cases e
 rename_i hlen;obtain⟨E',h1,h2,h3,h4⟩:=rb h c.ins;have hold:∀b,b<σ.bx.length→(c.ins.opens σ.bx)[b]? =σ.bx[b]?:=fun b hb=>by grind[A5.opens,List.getElem?_append_left]
 refine(xd (N0:=σ.bx.length) hc h1 h3 (hxs.imp fun x v hx=>h4 x v hx) hlen (k:=k) (y:=y) e).mono fun e' w' hR=> ?_
 obtain⟨x,E2,xv,σ',q0,q1,q2,q3,q4,q5⟩:=hR;exact⟨x,E2,xv,σ',q0,q1,q2,h2.after hold q3,q4,q5⟩
end
end Go.Fw
end
section
namespace Go.Fw
def gl(P:Program)(Γ:Nat→Option Pj):Prop:= ∀f c,Γ f=some c→Wt P f c
theorem qS{Γ:Nat→Option Pj}{σ:St}{o:Op}(h:nM o=false):Kk (fun _=>none) σ o=Kk Γ σ o:=by
 cases o with
 |call c=>
  obtain⟨callee,args,qi⟩:=c;cases callee with
  |value f=>simp[nM]at h
  |invoke _ _=>rfl
  |builtin b=>cases b<;>rfl
 |_=>rfl
theorem ARe{Y:Type}{P:Program}{Γ:Nat→Option Pj}{o:Oper}{E:Env}{σ:St}{a:Act}{w:World}{k:K Y}{y:Y}{g:Nat}{c:Pj}(hsc:Wt P g c)(h:Rel E σ a w){f:Operand}{args:Array Operand}{qi:Array TypeId}
  (ho:o.op= .call { callee:= .value f,args:=args,argTypes:=qi }) {ps:List Value} (aO:a.eval f= .func (.func g) #[] ps.toArray) {xs:List XV} (IP:CR (XR E w σ.bx) xs (args.toList.map a.eval++ps)) (ht:Kk Γ σ o.op=eN c xs σ)
  (e:lK c xs σ k=some y) {next:Act→World→Prop} {Q:Exit→Act→World→Prop}
  (hn:∀v w' E' x σ',Rel E' σ' a w'→XR E' w' σ'.bx x v→RP (Kk Γ σ o.op) E σ.bx w E' σ'.bx w'→σ'.tm.length=σ.tm.length→k x σ' =some y→next (a.put o.dst v) w'):o.wp P a w next Q:=by
 have r9:=AAd hsc h IP e;have jl:(execOp a.eval o).run P w= .ok (.enter g (args.toList.map a.eval++ps).toArray) w:=by
  have e2:(args.map a.eval)++ps.toArray=(args.toList.map a.eval++ps).toArray:=by
   simp_all
  simp only[execOp,ho,resolve,aO,Deferred.ofValue,Sem.run_bind,Sem.run_pure,Result.andThen_ok,invoke,Array.empty_append,e2,hsc.2.1]
 unfold Oper.wp;rw[jl];simp only[Oper.upon];refine r9.mono fun e w' hR=> ?_
 grind
section
variable{Y:Type} {P:Program} {T:Jm} (hT:En P T) {Γ:Nat→Option Pj} (hΓ:gl P Γ) {o:Oper} {E:Env} {σ:St} {a:Act} {w:World} {k:K Y} {y:Y}
include hT hΓ
theorem yo(h:Rel E σ a w)(e:XE T Γ o σ k=some y){next:Act→World→Prop}{Q:Exit→Act→World→Prop}
  (hn:∀v w' E' x σ',Rel E' σ' a w'→XR E' w' σ'.bx x v→RP (Kk Γ σ o.op) E σ.bx w E' σ'.bx w'→σ'.tm.length=σ.tm.length→k x σ' =some y→next (a.put o.dst v) w'):o.wp P a w next Q:=by
 by_cases hc:nM o.op=false
 ·obtain⟨v,w',E',x,σ',hr,h1,h2,h3,h4,h5⟩:=AAH hT h e hc
  rw[qS hc]at h3;unfold Oper.wp;rcases hr with hr|⟨hr,rfl⟩
  ·rw[hr]
   exact hn v w' E' x σ' h1 h2 h3 h4 h5
  ·rw[hr]
   exact hn _ w' E' x σ' h1 h2 h3 h4 h5
 ·
  unfold nM at hc;split at hc
  case h_2=>simp_all
  rename_i f args qi ho;unfold XE at e;rw[ho]at e;dsimp only at e;split at e
  case h_3=>cases e
  ·rename_i g Kg hf
   split at e
   case h_2=>cases e
   rename_i c hg;have hv:=h.ev f;rw[hf]at hv;obtain⟨cJ,aO⟩:(∀b∈Kg,b<σ.bx.length)∧a.eval f= .func (.func g) #[] (Kg.map fun b=>Value.pointer (some ⟨E.Hz b,0,none⟩)).toArray:=hv;have hsc:=hΓ g c hg;have IP:CR (XR E w σ.bx) (args.toList.map σ.ev++Kg.map fun b=> .c (.IX b 0)) (args.toList.map a.eval++Kg.map fun b=>Value.pointer (some ⟨E.Hz b,0,none⟩)):=by
    refine CR.append (evs h args.toList) ?_
    clear aO hf e
    induction Kg with
    |nil=>trivial
    |cons b l ih=>exact⟨⟨cJ b (by simp),rfl⟩,ih (fun c hc=>cJ c (by simp[hc]))⟩
   grind[Kk,eN,ARe]
  ·rename_i g rows hf
   split at e
   case h_2=>cases e
   rename_i c hg;have hv:=h.ev f;rw[hf]at hv;obtain⟨ps,aO,cJ⟩:∃ps:List Value,a.eval f= .func (.func g) #[] ps.toArray∧CR (RA E w) rows ps:=hv;have hsc:=hΓ g c hg;have IP:CR (XR E w σ.bx) (args.toList.map σ.ev++rows.map fun q=> .c (.PO false q.1 q.2 0)) (args.toList.map a.eval++ps):=by
    refine CR.append (evs h args.toList) ?_
    clear aO hf e
    induction rows generalizing ps with
    |nil=>
     cases ps with
     |nil=>trivial
     |cons _ _=>exact cJ.elim
    |cons q l ih=>
     cases ps with
     |nil=>exact cJ.elim
     |cons p ps=>
      obtain⟨⟨bb,o,cs,h1,h2,h3,h4,h5⟩,cJ⟩:=cJ;exact⟨⟨bb,o,cs,h1,h2,h3,h4,h5⟩,ih ps cJ⟩
   grind[Kk,eN,ARe]
end
theorem Rel.tmp{E:Env}{σ:St}{a:Act}{w:World}(h:Rel E σ a w){t:Nat}{x:XV}(e:σ.tm[t]? =some x):∃v,a.tmps[t]? =some v∧XR E w σ.bx x v:=by
 obtain⟨v,h1,h2⟩:=h.tm.get e;simp_all
def ALj:Value→Option Bool
 | .bool b=>some b
 |_=>none
theorem aZ{ops:Array Oper}{tmps:Array Value}{j t:Nat}(e:(ops[j]?).bind (·.dst)=some t){v:Value}(hv:tmps[t]? =some v):yielded ops tmps j=ALj v:=by
 simp only[yielded,e,AMM,hv];cases v<;>rfl
theorem oZ{E:Env}{w:World}{vw:List Bx}:XR E w vw (.NA []) undef:=⟨#[],rfl,trivial⟩
structure Ok (E0:Env) (w0:World) (N nb:Nat) (E:Env) (σ:St) (a:Act) (w:World):Prop where
 rel:Rel E σ a w
 base:cl E0 w0 E w
 tm:σ.tm.length=N
 qF:nb≤σ.bx.length
 ids:∀i,i<nb→σ.bx[i]?≠some .dead→E.Hz i=E0.Hz i∧E.Hy i=E0.Hy i
theorem Ok.next{E0 E E':Env}{w0 w w':World}{N nb:Nat}{σ σ':St}{a a':Act}{t:AAs}(h:Ok E0 w0 N nb E σ a w)(hr:Rel E' σ' a' w')(hw:RP t E σ.bx w E' σ'.bx w')(hl:σ'.tm.length=σ.tm.length):Ok E0 w0 N nb E' σ' a' w':=
 ⟨hr,h.base.trans hw.base,hl.trans h.tm,AQL h.qF hw.len,fun i hi hd=>by
  have h1:=hw.ids i (AQZ hi h.qF);have h2:=h.ids i hi (fun hh=>hd (hw.dead i hh));simp_all⟩
theorem Ok.put{E0 E:Env}{w0 w:World}{N nb:Nat}{σ:St}{a:Act}(h:Ok E0 w0 N nb E σ a w)(dst:Option Tmp){x:XV}{v:Value}(hx:XR E w σ.bx x v):Ok E0 w0 N nb E (σ.put dst x) (a.put dst v) w:=by
 have e1:(σ.put dst x).bx=σ.bx:=by cases dst<;>rfl
 have e2:(σ.put dst x).tm.length=σ.tm.length:=by cases dst<;>simp[St.put]
 refine⟨h.rel.put dst hx,h.base,e2.trans h.tm,by rw[e1];exact h.qF,fun i hi hd=>h.ids i hi (by simp_all)⟩
theorem Ok.same{E0 E:Env}{w0 w:World}{N nb:Nat}{σ σ1:St}{a:Act}(h:Ok E0 w0 N nb E σ a w)(hr:Rel E σ1 a w)(hb:σ1.bx=σ.bx)(hl:σ1.tm.length=σ.tm.length):Ok E0 w0 N nb E σ1 a w:=
 ⟨hr,h.base,hl.trans h.tm,by rw[hb];exact h.qF,fun i hi hd=>h.ids i hi (by simp_all)⟩
end Go.Fw
end
section
namespace Go.Fw
section
variable{Y:Type}
abbrev k0:K (XV×St):=fun x σ=>some (x,σ)
theorem AAZ{op:BinOp}{κ:IntKind}{a b:Int}(k:AV→Option Y):fQ op κ a b k=(fQ op κ a b some).bind k:=by
 cases op<;>simp[fQ]<;>split<;>rfl
theorem vM{op:BinOp}{κ:IntKind}{a b:Int}(k:AV→Option Y):YQ op κ a b k=(YQ op κ a b some).bind k:=by
 unfold YQ;grind
theorem zK{op:BinOp}{a b:AA7}(k:AV→Option Y):jM op a b k=(jM op a b some).bind k:=by
 cases op<;>simp[jM]<;>split<;>rfl
theorem px{T:Jm}{t:Nat}{op:BinOp}{a b:XV}(k:AV→Option Y):vz T t op a b k=(vz T t op a b some).bind k:=by
 unfold vz;grind[vM,AAZ,zK]
theorem sF{op:UnOp}{a:XV}(k:AV→Option Y):unX op a k=(unX op a some).bind k:=by
 unfold unX;grind
theorem Zl{g:Bool}{a b:XV}(k:AV→Option Y):tO g a b k=(tO g a b some).bind k:=by
 unfold tO;grind
theorem Ls{len:Nat}{lo hi:Option XV}(k:Nat→Nat→Option Y):OQ len lo hi k=(OQ len lo hi fun l h=>some (l,h)).bind fun p=>k p.1 p.2:=by
 unfold OQ;grind
theorem xw{T:Jm}{t:Nat}{σ:St}{x:XV}{lo hi:Option XV}(k:K Y):kO T t σ x lo hi k=(kO T t σ x lo hi k0).bind fun p=>k p.1 p.2:=by
 unfold kO;split
 ·split
  ·rw[Ls,Ls (Y:=XV×St),AQ5];rfl
  ·rfl
 ·split
  ·rw[Ls,Ls (Y:=XV×St),AQ5];rfl
  ·rfl
 ·split
  ·split
   ·rw[Ls,Ls (Y:=XV×St),AQ5];rfl
   ·rfl
  ·rfl
 ·rfl
theorem xI{T:Jm}{t:Nat}{σ:St}{x i:XV}(k:K Y):jZ σ T t x i k=(jZ σ T t x i k0).bind fun p=>k p.1 p.2:=by
 unfold jZ;grind
theorem qV{T:Jm}{t:Nat}{σ:St}{x i:XV}(k:K Y):Wb T t σ x i k=(Wb T t σ x i k0).bind fun p=>k p.1 p.2:=by
 unfold Wb;grind
theorem zW{T:Jm}{s d:Nat}{σ:St}{x:XV}(k:K Y):qy T s d σ x k=(qy T s d σ x k0).bind fun p=>k p.1 p.2:=by
 unfold qy;grind
theorem zG{T:Jm}{t:Nat}{σ:St}{l c:XV}(k:K Y):rj T t σ l c k=(rj T t σ l c k0).bind fun p=>k p.1 p.2:=by
 grind[rj]
theorem mQ{T:Jm}{t n:Nat}{ps:List (Nat×XV)}{σ:St}(k:K Y):RH T t n ps σ k=(RH T t n ps σ k0).bind fun p=>k p.1 p.2:=by
 grind[RH,Option.bind_assoc]
theorem vX{T:Jm}{ts:Array TypeId}{σ:St}{a x:XV}(k:K Y):eL T ts σ a x k=(eL T ts σ a x k0).bind fun p=>k p.1 p.2:=by
 unfold eL;split
 all_goals grind
theorem xR{T:Jm}{ts:Array TypeId}{σ:St}{x:XV}(k:K Y):kL T ts σ x k=(kL T ts σ x k0).bind fun p=>k p.1 p.2:=by
 unfold kL;grind
theorem zo{c:Pj}{xs:List XV}{σ:St}(k:K Y):lK c xs σ k=(lK c xs σ k0).bind fun p=>k p.1 p.2:=by
 grind[lK,Option.bind_assoc]
theorem uq{σ:St}{x:XV}(k:K Y):ar σ x k=(ar σ x k0).bind fun p=>k p.1 p.2:=by
 unfold ar;grind
theorem AAf{T:Jm}{Γ:Nat→Option Pj}{o:Oper}{σ:St}(k:K Y):XE T Γ o σ k=(XE T Γ o σ k0).bind fun p=>k p.1 p.2:=by
 unfold XE;split
 ·rfl
 ·exact uq k
 ·split
  ·rename_i x _
   cases x<;>rfl
  ·rfl
 ·grind
 ·grind
 ·grind
 ·exact mQ k
 ·grind
 ·grind
 ·grind
 ·rw[px,px (Y:=XV×St),AQ5];rfl
 ·rw[sF,sF (Y:=XV×St),AQ5];rfl
 ·exact zW k
 ·grind
 ·exact zG k
 ·exact xw k
 ·grind
 ·grind
 ·exact xI k
 ·exact qV k
 ·grind
 ·grind[zo]
 ·grind
 ·grind[vX]
 ·grind[xR]
 ·split
  ·rw[Zl,Zl (Y:=XV×St),AQ5];rfl
  ·rfl
 ·split
  ·rw[Zl,Zl (Y:=XV×St),AQ5];rfl
  ·rfl
 ·rfl
theorem ks{I:Type}[Nonempty I]{T:Jm}{Γ:Nat→Option Pj}{o:Oper}{σ:St}{k:I→K Y}{y:Y}(h:∀i,XE T Γ o σ (k i)=some y):∃x σ',XE T Γ o σ k0=some (x,σ')∧ ∀i,k i x σ' =some y:=by
 obtain⟨i0⟩:= ‹Nonempty I›;have h0:=h i0;grind[AAf,Option.bind_eq_some_iff]
end
end Go.Fw
end
section
namespace Go.Fw
def WF{α:Type}(P:Program)(s:Sem α):Prop:= ∀w v w1,s.run P w= .ok v w1→ ∀w',s.run P w' = .ok v w'
section
variable{α β:Type} {P:Program}
theorem WF.pure(x:α):WF P (Pure.pure x:Sem α):=fun w v w1 h w' =>by
 simp_all
theorem WF.bind{s:Sem α}{f:α→Sem β}(h:WF P s)(k:∀v,WF P (f v)):WF P (s >>= f):=fun w v w1 e w' =>by
 rw[Sem.run_bind]at e⊢;cases hs:s.run P w with
 |ok u w2=>
  rw[hs]at e;simp only[Result.andThen_ok]at e;rw[h w u w2 hs w'];simp only[Result.andThen_ok];exact k u w2 v w1 e w'
 |halt x w2=>
  simp_all
theorem WF.halt(x:Halt):WF P (.halt x:Sem α):=fun w v w1 e w' =>by simp_all
theorem WF.program:WF P program:=fun w v w1 e w' =>by
 simp_all
theorem WF.typeInfo(t:TypeId):WF P (typeInfo t):=WF.bind WF.program fun p=>by
 split
 ·exact WF.pure _
 ·exact WF.halt _
theorem WF.underlying(t:TypeId):WF P (underlying t):=WF.bind WF.program fun p=>by
 split
 ·exact WF.pure _
 ·exact WF.halt _
theorem WF.sizeOf(t:TypeId):WF P (Go.sizeOf t):=WF.bind (WF.typeInfo t) fun _=>WF.pure _
theorem WF.isAgg(t:TypeId):WF P (isAgg t):=WF.bind (WF.underlying t) fun d=>by
 grind[WF.pure]
theorem WF.zeroValue(t:TypeId):WF P (zeroValue t):=WF.bind (WF.typeInfo t) fun i=>by
 split
 ·exact WF.pure _
 ·exact WF.halt _
theorem WF.asIntOf(v:Value):WF P (asIntOf v):=by
 unfold Go.asIntOf;split
 ·exact WF.pure _
 ·exact WF.halt _
 ·exact WF.halt _
theorem WF.asBool(v:Value):WF P (asBool v):=by
 unfold Go.asBool;split
 ·exact WF.pure _
 ·exact WF.halt _
theorem WF.asAgg(v:Value):WF P (asAgg v):=by
 unfold Go.asAgg;split
 ·exact WF.pure _
 ·exact WF.halt _
theorem WF.sureAddr(v:Value):WF P (Instr.sureAddr v):=by
 unfold Instr.sureAddr;split
 ·exact WF.pure _
 ·exact WF.halt _
theorem WF.vO{s:Sem α}(h:∀w v w1,s.run P w≠ .ok v w1):WF P s:=fun w v w1 e=>absurd e (h w v w1)
theorem W3{s:Sem α}{f:α→Sem β}(h:∀x w v w1,(f x).run P w≠ .ok v w1):∀w v w1,(s >>= f).run P w≠ .ok v w1:=fun w v w1 e=>by
 rw[Sem.run_bind]at e;cases hs:s.run P w with
 |ok u w2=>simp_all
 |halt x w2=>simp_all
theorem fm(x:Halt):∀w v w1,(.halt x:Sem α).run P w≠ .ok v w1:=fun w v w1 e=>by simp_all
theorem lk(e:RuntimeError):∀w v w1,(runtimePanic e:Sem α).run P w≠ .ok v w1:=by
 unfold runtimePanic;refine W3 fun p=> ?_
 dsimp only;split<;>first
  |exact fm _
  |exact W3 fun _=>W3 fun _=>fm _
  |exact W3 fun _=>fm _
theorem WF.bounds(k:IntKind)(x y:Int)(c:BoundsCode):WF P (boundsPanic k x y c:Sem α):=WF.vO (by
 grind[boundsPanic,W3,lk])
theorem WF.part(t:TypeId)(cs:Array Value)(o:Nat):WF P (part t cs o):=WF.bind (WF.isAgg t) fun b=>by
 split
 ·grind[WF.bind,WF.sizeOf,WF.pure]
 ·split
  ·exact WF.pure _
  ·exact WF.halt _
theorem WF.field(t:TypeId)(x:Value)(f:Nat):WF P (Instr.field t x f):=WF.bind (WF.underlying t) fun d=>by
 split
 ·split
  ·grind[WF.bind,WF.asAgg,WF.part]
  ·exact WF.halt _
 ·exact WF.halt _
theorem WF.indexAt(t:TypeId)(x i:Value):WF P (Instr.indexAt t x i):=WF.bind (WF.asIntOf i) fun q=>by
 obtain⟨k,i⟩:=q;dsimp only;refine WF.bind (WF.underlying t) fun d=> ?_
 have rest:∀q:Option Addr×Nat×TypeId,WF P (do
   let d←Go.underlying t
   match q.1 with
   |some a=>
    if 0≤i∧i<(q.2.1:Int)then do
     let s←Go.sizeOf q.2.2
     Pure.pure (Value.pointer (some (a.add (i.toNat*s))))
    else if(decide (q.2.1≤1)&&(match d with| .array .. =>true|_=>false))=true then unsupported (.noEntry "op/indexAddr.an index out of range at an array of length 0 or 1 (ledger 616)")
    else boundsPanic k i q.2.1 .index
   |none=>boundsPanic k i 0 .index:Sem Value):=fun q=>by
  refine WF.bind (WF.underlying t) fun d=> ?_
  split
  ·split
   ·grind[WF.bind,WF.sizeOf,WF.pure]
   ·repeat' split
    all_goals first|exact WF.halt _|exact WF.bounds _ _ _ _
  grind[WF.bounds]
 split
 ·exact WF.bind (WF.sureAddr _) fun _=>WF.bind (WF.pure _) fun q=>rest q
 ·exact WF.bind (WF.pure _) fun q=>rest q
 ·exact WF.bind (WF.halt _) fun q=>rest q
theorem WF.index(t:TypeId)(x i:Value):WF P (Instr.index t x i):=WF.bind (WF.asIntOf i) fun q=>by
 obtain⟨k,i⟩:=q;dsimp only;refine WF.bind (WF.underlying t) fun d=> ?_
 split
 ·grind[WF.bind,WF.sizeOf,WF.part,WF.bounds]
 ·grind[WF.pure,WF.bounds]
 ·exact WF.halt _
theorem WF.extract(x:Value)(i:Nat):WF P (Instr.extract x i):=by
 unfold Instr.extract;split
 ·split
  ·exact WF.pure _
  ·exact WF.halt _
 ·exact WF.halt _
theorem WF.sliceBound(x:Value)(y:Nat)(c:BoundsCode):WF P (Instr.sliceBound x y c):=WF.bind (WF.asIntOf x) fun q=>by
 grind[WF.pure,WF.bounds]
theorem WF.sliceBounds(b:Bool)(len cap:Nat)(l h:Option Value):WF P (Instr.sliceBounds b len cap l h none):=by
 cases h with
 |none=>
  cases l with
  |none=>exact WF.bind (WF.pure _) fun _=>WF.bind (WF.pure _) fun _=>WF.bind (WF.pure _) fun _=>WF.pure _
  |some l=>exact WF.bind (WF.pure _) fun _=>WF.bind (WF.pure _) fun _=>WF.bind (WF.sliceBound _ _ _) fun _=>WF.pure _
 |some h=>
  cases l with
  |none=>exact WF.bind (WF.pure _) fun _=>WF.bind (WF.sliceBound _ _ _) fun _=>WF.bind (WF.pure _) fun _=>WF.pure _
  |some l=>exact WF.bind (WF.pure _) fun _=>WF.bind (WF.sliceBound _ _ _) fun _=>WF.bind (WF.sliceBound _ _ _) fun _=>WF.pure _
theorem WF.asAddr(v:Value):WF P (asAddr v):=by
 unfold Go.asAddr;split
 ·exact WF.pure _
 ·exact WF.vO (lk _)
 ·exact WF.halt _
theorem WF.slice(t:TypeId)(x:Value)(l h:Option Value):WF P (Instr.slice t x l h none):=WF.bind (WF.underlying t) fun d=>by
 split
 ·grind[WF.bind,WF.sliceBounds,WF.pure]
 ·grind[WF.bind,WF.sliceBounds,WF.sizeOf,WF.pure]
 ·refine WF.bind (WF.asAddr _) fun _=>WF.bind (WF.underlying _) fun d=> ?_
  split
  ·grind[WF.bind,WF.sliceBounds,WF.sizeOf,WF.pure]
  ·exact WF.halt _
 ·exact WF.halt _
theorem WF.sliceAt(t:TypeId)(x:Value)(l h:Option Value):WF P (Instr.sliceAt t x l h none):=WF.bind (WF.underlying t) fun d=>by
 grind[WF.bind,WF.sureAddr,WF.sliceBounds,WF.sizeOf,WF.pure,WF.slice]
theorem WF.r6{f:α→Sem β}(h:∀x,WF P (f x)):∀l:List α,WF P (l.mapM f)
 |[]=>WF.pure _
 |x::l=>by
  rw[AVG];exact WF.bind (h x) fun _=>WF.bind (WF.r6 h l) fun _=>WF.pure _
theorem WF.mapM{f:α→Sem β}(h:∀x,WF P (f x))(a:Array α):WF P (a.mapM f):=by
 rw[Array.mapM_eq_mapM_toList,←bind_pure_comp];grind[WF.bind,WF.r6,WF.pure]
theorem WF.build(t:TypeId)(ps:Array (Nat×Value)):WF P (Instr.build t ps):=WF.bind (WF.zeroValue t) fun z=>by
 refine WF.bind (WF.underlying t) fun d=> ?_
 split
 ·refine WF.bind (WF.mapM (fun f=>WF.bind (WF.sizeOf _) fun _=>WF.pure _) _) fun _=> ?_
  split
  ·exact WF.pure _
  ·exact WF.halt _
 ·refine WF.bind (WF.sizeOf _) fun _=> ?_
  split
  ·exact WF.pure _
  ·exact WF.halt _
 ·exact WF.halt _
end
end Go.Fw
end
section
namespace Go.Fw
def Kof(hint:AAs)(E:Env)(w:World)(bx:List Bx)(c:Nat):Prop:=E.T c∨ ∃n B,n∈hint∧bx[n]? =some B∧wF E w n B c
def nL(K:Nat→Prop)(w w':World):Prop:= ∀c,K c→w'.heap[c]? =w.heap[c]?
theorem yb{w:World}{B:Nat→Prop}:∀{p:List ky} {r:Ty} {h:Value} {rows:List r.D} {q:Ty} {ys:List q.D} {bb o len cap i:Nat},Rd w B (.sl r) [h] rows→C_ r rows p→G3 r rows p=some ⟨q,ys⟩→
  I2 w h p=some (.slice (some ⟨bb,o,none⟩) len cap)→i<ys.length→RB w (.sl r) [h] rows bb
 |[],r,h,rows,q,ys,bb,o,len,cap,i,hr,hp,hg,hh,hi=>by
  rw[C4]at hh;cases hh;simp only[G3,ALL,ANo]at hg;obtain⟨rfl,hg⟩:=hg;obtain rfl:=AQJ hg;simp only[RB];grind
 |s::p,r,h,rows,q,ys,bb,o,len,cap,i,hr,hp,hg,hh,hi=>by
  simp only[C_]at hp;obtain⟨hsi,PQ,hp⟩:=hp;simp only[Rd]at hr;obtain⟨a,cap',e1,_,hr⟩:=hr;obtain rfl:=(List.cons.inj e1).1;rcases hr with hr|⟨b',o',rfl,hb,hr⟩
  ·omega
  obtain⟨cs,hl,hc,hrow⟩:=hr s.i _ (Qs hsi);simp only[G3]at hg;split at hg
  case h_2=>cases hg
  rename_i q' x gY;rw[gY]at hp;dsimp only at hp;obtain⟨v,hv,hrv⟩:=eU hrow gY;have hcv:=hc _ _ hv;rw[←PQ]at hcv;simp only[I2,hcv]at hh;have:=yb hrv hp hg hh hi;simp only[RB];refine⟨b',o',_,cap',rfl,by omega,.inr ⟨s.i,_,cs,Qs hsi,hl,hc,?_⟩⟩;clear hc hcv e1 hr;exact RB_cell hrow gY hv this
where
 RB_cell {w:World} {B:Nat→Prop} {c:Nat}:∀{r:Ty} {cs:List Value} {x:r.D} {j:Nat} {t:Ty} {y:t.D} {v:Value},Rd w B r cs x→BK r j x=some ⟨t,y⟩→cs[j]? =some v→RB w t [v] y c→RB w r cs x c
 | .cons c r,cs,x,0,t,y,v,h,e,hv,k=>by
  simp only[Rd]at h;obtain⟨u,l,rfl,h1,h2⟩:=h;simp only[BK,ALL,ANo]at e;obtain⟨rfl,e⟩:=e;obtain rfl:=AQJ e;simp at hv;subst hv;simp only[RB];grind
 | .cons c r,cs,x,j+1,t,y,v,h,e,hv,k=>by
  simp only[Rd]at h;obtain⟨u,l,rfl,h1,h2⟩:=h;simp only[BK]at e;have:=RB_cell h2 e (by simp_all) k;simp only[RB];grind
 | .int k,cs,x,0,t,y,v,h,e,hv,k' =>by
  simp only[BK,ALL,ANo]at e;obtain⟨rfl,_⟩:=e;simp[RB]at k'
 | .bool,cs,x,0,t,y,v,h,e,hv,k' =>by
  simp only[BK,ALL,ANo]at e;obtain⟨rfl,_⟩:=e;simp[RB]at k'
 | .str,cs,x,0,t,y,v,h,e,hv,k' =>by
  simp only[BK,ALL,ANo]at e;obtain⟨rfl,_⟩:=e;simp[RB]at k'
 | .sl r,cs,x,0,t,y,v,h,e,hv,k=>by
  simp only[BK,ALL,ANo]at e;obtain⟨rfl,e⟩:=e;obtain rfl:=AQJ e;have hl:=kb h;simp only[Ty.n]at hl;obtain⟨u,rfl⟩:=List.length_eq_one_iff.1 hl;simp_all
 | .unit,_,_,_,_,_,_,_,e,_,_=>by simp[BK]at e
 | .int _,_,_,_+1,_,_,_,_,e,_,_=>by simp[BK]at e
 | .bool,_,_,_+1,_,_,_,_,e,_,_=>by simp[BK]at e
 | .str,_,_,_+1,_,_,_,_,e,_,_=>by simp[BK]at e
 | .sl _,_,_,_+1,_,_,_,_,e,_,_=>by simp[BK]at e
section
variable{P:Program} {T:Jm} (hT:En P T) {E:Env} {w:World}
include hT
theorem rQ{σ:St}{Fs:List AAs}(hB:NV E w σ.bx σ.bx Fs)(st:∀c,E.S c→E.T c){t:Nat}{x:AV}{z:XV}(e:ln T t σ (.c x)=some z){v:Value}(hx:VR E w σ.bx x v):
  ∃bb oo u y,v= .pointer (some ⟨bb,oo,none⟩)∧Jh σ.bx x 0=some y∧XR E w σ.bx z u∧ ∀w',w'.heap[bb]? =w.heap[bb]?→(Instr.loadAt t v).run P w' = .ok u w':=by
 unfold ln at e;split at e
 case h_2=>cases e
 rename_i x' ti hx' Uy;cases hx';split at e
 case isTrue=>cases e
 rename_i PQ;have jT:=fun w=>En.isAgg hT Uy w
 split at e
 ·rename_i ha
  simp only[ALN]at e;obtain⟨l,hl,rfl⟩:=e;obtain⟨h1,h2⟩:=aa hl;have h0:0<l.length:=by omega
  obtain⟨b,o,u,hv,_,_⟩:=LL hB st (h2 0 _ (ALD h0)) hx;obtain⟨cs,c1,c2,c3⟩:=dB hB st hx hv (l:=l) (j:=0) (fun i y hy=>by simp_all);subst hv;have gz:=(hT t ti Uy).und;cases hd:ti.desc with
  |st fs=>
   rw[hd]at gz;obtain⟨fields,hu,_⟩:=gz;refine⟨b,o,.agg cs.toArray,_,rfl,by simpa using h2 0 _ (ALD h0),⟨cs.toArray,rfl,by omega⟩,fun w' hw=>run_loadAt_mid w' b o t cs _ (by have:=c2.of_block hw;grind[BT,World.rangeAt]) hu rfl ?_⟩;grind[En.size]
  |_=>grind[TD.agg]
 ·rename_i ha
  simp only[APR]at ha;simp only[ALN]at e;obtain⟨y,hy,rfl⟩:=e;obtain⟨b,o,u,hv,hc,hr⟩:=LL hB st hy hx;subst hv;refine⟨b,o,u,y,rfl,hy,hr,fun w' hw=> ?_⟩;have AKj:=jT w';rw[ha]at AKj;simp only[AQ2]at hc;have cR:w'.cell? ⟨b,o,none⟩=some u:=by grind[World.cell?_of_block]
  simp[Instr.loadAt,Instr.sureAddr,loadVar,AKj,cR]
end
theorem vx{E E':Env}{w w':World}{vw vw':List Bx}{t:Ty}{x:t.D}{v:Value}(h:VR E w vw (.v t x) v):VR E' w' vw' (.v t x) v:=by
 obtain⟨h1,h2⟩:=h;refine⟨h1,?_⟩;cases t<;>simp_all[Ty.scalar,Rd]
theorem jI{E E':Env}{w w':World}{vw vw':List Bx}{t:Ty}{x:t.D}{v u:Value}(h:VR E w vw (.v t x) v)(k:VR E' w' vw' (.v t x) u):v=u:=by
 obtain⟨h1,h2⟩:=h;obtain⟨_,k2⟩:=k;cases t<;>simp_all[Ty.scalar,Rd]
def j9(x:XV):Prop:=(∃t z,x= .c (.v t z))∨(∃l,x= .agg l∧ ∀c∈l,∃t z,c= .v t z)
theorem MI{E E':Env}{w w':World}{vw vw':List Bx}{x:XV}{v:Value}(hp:j9 x)(h:XR E w vw x v):XR E' w' vw' x v:=by
 rcases hp with⟨t,z,rfl⟩|⟨l,rfl,hl⟩
 ·exact vx (E:=E) (w:=w) (vw:=vw) (E':=E') (w':=w') (vw':=vw') h
 ·obtain⟨vs,rfl,Vt⟩:=h
  refine⟨vs,rfl,?_⟩
  generalize vs.toList=m at Vt
  induction l generalizing m with
  |nil=>cases m with
   |nil=>trivial
   |cons _ _=>exact Vt.elim
  |cons c l ih=>cases m with
   |nil=>exact Vt.elim
   |cons u m=>
    obtain⟨t,z,rfl⟩:=hl c (by simp);exact⟨vx Vt.1,ih (fun c hc=>hl c (by simp[hc])) m Vt.2⟩
theorem su{d:TD}{x z:AV}{p:Bool}(e:oN d x z=some p):(∃t y,x= .v t y)∧ ∃t y,z= .v t y:=by
 unfold oN at e;grind
theorem ZD{T:Jm}:∀{i:Nat} {fs:List ABj} {l m:List AV} {r:Bool},LK T i fs l m=some r→(∀c∈l,∃t z,c= .v t z)∧ ∀c∈m,∃t z,c= .v t z
 |i,[],[],[],r,e=>by simp
 |i,(o,t)::fs,x::l,z::m,r,e=>by
  simp only[LK]at e;split at e
  case isFalse=>cases e
  split at e
  case h_2=>cases e
  split at e
  case h_2=>cases e
  rename_i p hp;simp only[ALN]at e;obtain⟨r',e1,_⟩:=e;obtain⟨a1,a2⟩:=su hp;obtain⟨b1,b2⟩:=ZD e1;simp_all
 |_,[],[],_::_,_,e=>by simp[LK]at e
 |_,[],_::_,_,_,e=>by simp[LK]at e
 |_,_::_,[],_,_,e=>by simp[LK]at e
 |_,_::_,_::_,[],_,e=>by simp[LK]at e
theorem AF6{op:BinOp}{κ:IntKind}{a b:Int}{r:AV}(e:fQ op κ a b some=some r):∃t x,r= .v t x:=by
 cases op<;>simp only[fQ,ALL]at e<;>first
  |exact⟨_,_,e.symm⟩
  |(grind)
  |cases e
theorem zg{op:BinOp}{κ:IntKind}{a b:Int}{r:AV}(e:YQ op κ a b some=some r):∃t x,r= .v t x:=by
 unfold YQ at e;grind
theorem AHR{op:BinOp}{a b:AA7}{r:AV}(e:jM op a b some=some r):∃t x,r= .v t x:=by
 cases op<;>simp only[jM,ALL]at e<;>first
  |exact⟨_,_,e.symm⟩
  |(
   split at e
   all_goals grind)
  |cases e
theorem AOb{T:Jm}{t:Nat}{op:BinOp}{a b:XV}{r:AV}(e:vz T t op a b some=some r):(∃t x,r= .v t x)∧j9 a∧j9 b:=by
 unfold vz at e;split at e
 ·refine⟨?_,.inl ⟨_,_,rfl⟩,.inl ⟨_,_,rfl⟩⟩
  grind[zg,AF6]
 ·exact⟨AHR e,.inl ⟨_,_,rfl⟩,.inl ⟨_,_,rfl⟩⟩
 ·refine⟨?_,.inl ⟨_,_,rfl⟩,.inl ⟨_,_,rfl⟩⟩
  grind
 ·split at e
  ·rename_i hq
   rw[ALe]at hq;obtain⟨fs,_,hq⟩:=hq;obtain⟨q1,q2⟩:=ZD hq;cases e;exact⟨⟨_,_,rfl⟩,.inr ⟨_,rfl,q1⟩,.inr ⟨_,rfl,q2⟩⟩
  ·rename_i hq
   rw[ALe]at hq;obtain⟨fs,_,hq⟩:=hq;obtain⟨q1,q2⟩:=ZD hq;cases e;exact⟨⟨_,_,rfl⟩,.inr ⟨_,rfl,q1⟩,.inr ⟨_,rfl,q2⟩⟩
  simp_all
 simp_all
theorem ABi{g:Bool}{a b:XV}{r:AV}(e:tO g a b some=some r):(∃t x,r= .v t x)∧j9 a∧j9 b:=by
 unfold tO at e;split at e
 ·refine⟨?_,.inl ⟨_,_,rfl⟩,.inl ⟨_,_,rfl⟩⟩
  grind
 simp_all
theorem ASm{op:UnOp}{a:XV}{r:AV}(e:unX op a some=some r):(∃t x,r= .v t x)∧j9 a:=by
 unfold unX at e;split at e
 ·cases e;exact⟨⟨_,_,rfl⟩,.inl ⟨_,_,rfl⟩⟩
 ·cases e;exact⟨⟨_,_,rfl⟩,.inl ⟨_,_,rfl⟩⟩
 simp_all
section
variable{Y:Type} {P:Program} {T:Jm} (hT:En P T) {Γ:Nat→Option Pj} {o:Oper} {E:Env} {σ:St} {a:Act} {w:World} {k:K Y} {y:Y}
include hT
theorem AAv(h:Rel E σ a w){t:TypeId}(ps:Array (Nat×Operand)){s b:Nat}{fs:List ABj}{rw:Option Ty}(Uy:T.get t=some ⟨s,b,.st fs,rw⟩){r:Ty}(hr:T.iW t=some r)
  {cs:List AV} (hb:gX T fs (bM r) (ps.toList.map fun q=>(q.1,σ.ev q.2))=some cs):
  ∃KI,(∀w',(Instr.build t (ps.map fun(i,x)=>(i,a.eval x))).run P w' = .ok (.agg KI) w')∧i7 E w σ.bx cs KI.toList:=by
 obtain⟨i,z,h1,h2,h3,_⟩:=row_zero hT hr;obtain⟨fields,hu,hfs,PQ⟩:=AFL hT Uy;obtain⟨KI,f1,f2⟩:=aW hT (oh h ps) (arr:=z.cells) (by grind[YR]) hb;refine⟨KI,fun w' => ?_,f2⟩;have hb:P.built t (ps.map fun(i,x)=>(i,a.eval x)).toList=some KI:=by
  unfold Program.built;simp only[h1,hu,h2];have hm:fields.toList.mapM (fun f=>(P.info? f.type).map fun i=>(f.offset,i.size))=some (fields.toList.map fun f=>(f.offset,((P.info? f.type).map (·.size)).getD 0)):=by
   grind[oq]
  simp only[hm];rw[←f1];congr 1;funext n;subst hfs;simp only[List.getElem?_toArray,AQN];cases hn:fields.toList[n]? with
  |none=>simp
  |some f=>
   obtain⟨i',DG,_⟩:=PQ f (AO9 hn);simp[DG]
 grind[run_build]
theorem xX{hint:AAs}(h:Rel E σ a w)(hq:ij hint σ o.op=true)(e:XE T Γ o σ k=some y):
  ∃v x,XR E w σ.bx x v∧k x σ=some y∧ ∀w',nL (Kof hint E w σ.bx) w w'→(execOp a.eval o).run P w' = .ok (.value v) w':=by
 obtain⟨Fs,hB,hS⟩:=h.bx;have st:=hS.st;have wf:∀{s:Sem Value} {v:Value},WF P s→s.run P w= .ok v w→ ∀w',s.run P w' = .ok v w':=fun h1 h2 w' =>h1 w _ w h2 w'
 unfold XE at e;split at e
 ·rename_i x ho
  exact⟨a.eval x,_,h.ev x,e,fun w' _=>by grind[execOp,Sem.run_pure]⟩
 ·rename_i x ho
  unfold ar at e;split at e
  ·grind[ij]
  ·exact⟨a.eval x,_,h.ev x,e,fun w' _=>by grind[execOp,Sem.run_pure]⟩
 ·rename_i c xa xb ho
  split at e
  case h_2=>cases e
  rename_i p hp;have hc:=h.ev c;rw[hp]at hc;have cR:=SC (E:=E) (w:=w) (vw:=σ.bx) hc;refine⟨if p then a.eval xa else a.eval xb,if p then σ.ev xa else σ.ev xb,by cases p<;>simp[h.ev],by grind[ABa],fun w' _=>by simp[execOp,ho,cR,asBool]⟩
 ·rename_i t ho;rw[ho]at hq;cases hq
 ·rename_i t x ho;rw[ho]at hq;cases hq
 ·rename_i t ps ho
  split at e
  case h_2=>cases e
  rename_i s b fs rw r Uy hr;split at e
  case h_2=>cases e
  rename_i cs uV;obtain⟨KI,h1,h2⟩:=AAv hT h ps Uy hr uV;exact⟨.agg KI,.agg cs,⟨KI,rfl,h2⟩,e,fun w' _=>by grind[execOp,Sem.run_bind,Result.andThen_ok,Sem.run_pure]⟩
 ·rename_i t n ps ho;rw[ho]at hq;cases hq
 ·rename_i t x ho
  rw[ho]at hq;split at e
  case h_2=>cases e
  rename_i z hz;have hv:=h.ev x;simp only[ij]at hq
  generalize hX:σ.ev x=X at hq hv hz
  cases X with
  |agg l=>cases hq
  |NA l=>cases hq
  |c ad=>
   obtain⟨bb,oo,u,cell,hp,hc,h2,h3⟩:=rQ hT hB st hz hv;refine⟨u,z,h2,e,fun w' qw=> ?_⟩;have hbb:w'.heap[bb]? =w.heap[bb]?:=by
    refine qw bb ?_
    have X8:VR E w σ.bx ad (a.eval x):=hv;cases ad with
    |IX b j=>
     simp only[gB,AQx]at hq;simp only[Jh]at hc;split at hc
     ·rename_i cs hb
      refine .inr ⟨b,_,hq,hb,?_⟩;have:=X8.2;rw[hp]at this;simp only[Value.pointer.injEq,ALL,Addr.mk.injEq]at this;exact this.1
     simp_all
    |Je b p i sz j=>
     simp only[gB,AQx]at hq;simp only[Jh]at hc;split at hc
     ·rename_i d q rows hb
      refine .inr ⟨b,_,hq,hb,?_⟩;simp only[VR,hb]at X8;obtain⟨_,hpp,q1,ys,b2,o2,len,cap,g1,g2,g3,g4⟩:=X8;rw[hp]at g4;simp only[Value.pointer.injEq,ALL,Addr.mk.injEq]at g4;obtain⟨rfl,_⟩:=g4;obtain⟨F,⟨_,ho2⟩,_⟩:=hB.get hb;exact yb (XH ho2) hpp g1 g3 g2
     simp_all
    |PO s r z j=>
     obtain⟨b2,o2,cs,g1,g2,_⟩:=X8;rw[hp]at g1;simp only[Value.pointer.injEq,ALL,Addr.mk.injEq]at g1;obtain⟨rfl,_⟩:=g1
     left
     grind
    |_=>cases hq
   grind[execOp,Sem.run_bind,Result.andThen_ok,Sem.run_pure]
 ·rename_i t xa xx ho;rw[ho]at hq;cases hq
 ·rename_i x ho
  have hx:=h.ev x;split at e
  ·rename_i b j hp
   rw[hp]at hx;have hx':b<σ.bx.length∧a.eval x= .pointer (some ⟨E.Hz b,j,none⟩):=hx;grind[execOp,Sem.run_pure]
  ·rename_i b p i sz j hp
   rw[hp]at hx;have hpt:bn (a.eval x)=true:=hx.1;grind[bn,execOp,Sem.run_pure]
  ·rename_i s r z j hp
   rw[hp]at hx;obtain⟨bb,oo,cs,hv,hrest⟩:=hx;exact⟨a.eval x,.c (.PO s r z j),⟨bb,oo,cs,hv,hrest⟩,e,fun w' _=>by grind[execOp,Sem.run_pure]⟩
  ·rename_i f Kg hp
   rw[hp]at hx;have hx':(∀b∈Kg,b<σ.bx.length)∧a.eval x= .func (.func f) #[] (Kg.map fun b=>Value.pointer (some ⟨E.Hz b,0,none⟩)).toArray:=hx;grind[execOp,Sem.run_pure]
  simp_all
 ·rename_i op t x z s ho
  rw[px,ALe]at e;obtain⟨r,e1,e⟩:=e;obtain⟨⟨t',x',rfl⟩,p1,p2⟩:=AOb e1;obtain⟨r0,val,h1,h2,h3⟩:=gU hT e1 (h.ev x) (h.ev z) x z;cases h1;refine⟨val,.c (.v t' x'),h3,e,fun w' _=> ?_⟩;obtain⟨r1,val',g1,g2,g3⟩:=gU hT e1 (MI (E':=E) (w':=w') (vw':=σ.bx) p1 (h.ev x)) (MI p2 (h.ev z)) x z;cases g1;have:=jI h3 g3;subst this;simp only[execOp,ho,Sem.run_bind];simp_all
 ·rename_i op t x ho
  rw[sF,ALe]at e;obtain⟨r,e1,e⟩:=e;obtain⟨⟨t',x',rfl⟩,p1⟩:=ASm e1;obtain⟨r0,val,h1,h2,h3⟩:=jz (P:=P) e1 (h.ev x);cases h1;refine⟨val,.c (.v t' x'),h3,e,fun w' _=> ?_⟩;obtain⟨r1,val',g1,g2,g3⟩:=jz (P:=P) e1 (MI (E':=E) (w':=w') (vw':=σ.bx) p1 (h.ev x));grind[jI,execOp,Sem.run_bind,Result.andThen_ok,Sem.run_pure]
 ·rename_i s d x ho;rw[ho]at hq;cases hq
 ·rename_i f first Kg ho;rw[ho]at hq;cases hq
 ·rename_i t l c ho;rw[ho]at hq;cases hq
 ·rename_i t x lo hi ho
  obtain⟨z,val,h1,h2,h3⟩:=iO hT hB st e (h.ev x) (yD h lo) (yD h hi);exact⟨val,z,h3,h1,fun w' _=>by simp only[execOp,ho,Option.map_none,Sem.run_bind,wf (WF.sliceAt _ _ _ _) h2 w',Result.andThen_ok,Sem.run_pure]⟩
 ·rename_i t x f ho
  split at e
  case h_2=>cases e
  rename_i z hz;obtain⟨u,h1,h2⟩:=iu hT hz (h.ev x);refine⟨u,z,h2,e,fun w' _=> ?_⟩;have hw:(Instr.fieldAt t (a.eval x) f).run P w' = .ok u w':=by
   have hx:=h.ev x;unfold th at hz;split at hz
   case h_2=>cases hz
   rename_i s b fs _ Uy;split at hz
   case h_2=>cases hz
   rename_i o' u' hf;have key:∀ad,a.eval x= .pointer (some ad)→(Instr.fieldAt t (a.eval x) f).run P w' = .ok u w':=by
    intro ad had;rw[had]at h1⊢;have r1:=U1 hT (w:=w) Uy hf (a:=ad);grind[U1]
   split at hz
   ·rename_i b' j hp
    rw[hp]at hx;exact key _ hx.2
   ·rename_i b' p i sz j hp
    rw[hp]at hx;have hpt:bn (a.eval x)=true:=hx.1;unfold bn at hpt;grind
   ·rename_i s r y' j hp
    rw[hp]at hx;obtain⟨bb,oo,cs,hv,_⟩:=hx;simp_all
   simp_all
  grind[execOp,Sem.run_bind,Result.andThen_ok,Sem.run_pure]
 ·rename_i t x f ho
  split at e
  case h_2=>cases e
  rename_i z hz;obtain⟨u,h1,h2⟩:=lh hT hz (h.ev x);exact⟨u,z,h2,e,fun w' _=>by simp only[execOp,ho,Sem.run_bind,wf (WF.field _ _ _) h1 w',Result.andThen_ok,Sem.run_pure]⟩
 ·rename_i t x i ho
  obtain⟨z,val,h1,h2,h3⟩:=iJ hT hB st e (h.ev x) (h.ev i);exact⟨val,z,h3,h1,fun w' _=>by simp only[execOp,ho,Sem.run_bind,wf (WF.indexAt _ _ _) h2 w',Result.andThen_ok,Sem.run_pure]⟩
 ·rename_i t x i ho
  obtain⟨z,val,h1,h2,h3⟩:=bo hT e (h.ev x) (h.ev i);exact⟨val,z,h3,h1,fun w' _=>by simp only[execOp,ho,Sem.run_bind,wf (WF.index _ _ _) h2 w',Result.andThen_ok,Sem.run_pure]⟩
 ·rename_i x i ho
  split at e
  case h_2=>cases e
  rename_i z hz;obtain⟨u,h1,h2⟩:=d_ (P:=P) hz (h.ev x);exact⟨u,z,h2,e,fun w' _=>by simp only[execOp,ho,Sem.run_bind,wf (WF.extract _ _) h1 w',Result.andThen_ok,Sem.run_pure]⟩
 ·rename_i f args qi ho;rw[ho]at hq;cases hq
 ·rename_i args qi ho
  split at e
  ·rename_i s t IP hts
   obtain⟨x,rfl,hx⟩:=Xe IP;have hv:=h.ev x;rw[hx]at hv;have X8:=Ww (E:=E) (w:=w) (vw:=σ.bx) hv;split at e
   case isFalse=>cases e
   rename_i hs;have hu:=XS hT hs;refine⟨.int .i64 (s.length:Int),.c (.v (.int .i64) (s.length:Int)),VR.int (E:=E) (vw:=σ.bx) _ _,e,fun w' _=> ?_⟩;have PQ:(⟨s.toArray⟩:ByteArray).size=s.length:=by rfl
   simp[execOp,ho,resolve,invoke,builtin,Builtin.len_,hts,X8,BR hu,goInt,PQ]
  ·rename_i z t _ IP hts
   obtain⟨x,rfl,hx⟩:=Xe IP;have hv:=h.ev x;rw[hx]at hv;split at e
   case isFalse=>cases e
   rename_i hs;split at e
   case h_2=>cases e
   rename_i n hn;obtain⟨el,hu⟩:=kg hT hs;obtain⟨ad,cap,X8⟩:=lF hB st hn hv;refine⟨.int .i64 (n:Int),.c (.v (.int .i64) (n:Int)),VR.int (E:=E) (vw:=σ.bx) _ _,e,fun w' _=> ?_⟩;simp[execOp,ho,resolve,invoke,builtin,Builtin.len_,hts,X8,BR hu,goInt]
  simp_all
 ·rename_i args qi ho;rw[ho]at hq;cases hq
 ·rename_i args qi ho;rw[ho]at hq;cases hq
 ·rename_i args qi ho
  split at e
  case h_2=>cases e
  rename_i x1 x2 IP;obtain⟨o1,o2,rfl,hx1,hx2⟩:=W4 IP;have cJ:=h.ev o1;have aO:=h.ev o2;rw[hx1]at cJ;rw[hx2]at aO;rw[Zl,ALe]at e;obtain⟨r,e1,e⟩:=e;obtain⟨⟨t',x',rfl⟩,p1,p2⟩:=ABi e1;obtain⟨r0,val,h1,h2,h3⟩:=Te (P:=P) (big:=true) e1 cJ aO qi #[] o.type;cases h1;refine⟨val,.c (.v t' x'),h3,e,fun w' _=> ?_⟩;obtain⟨r1,val',g1,g2,g3⟩:=Te (P:=P) (big:=true) e1 (MI (E':=E) (w':=w') (vw':=σ.bx) p1 cJ) (MI p2 aO) qi #[] o.type;cases g1;have:=jI h3 g3;subst this;simp only[AQV]at g2;simp[execOp,ho,resolve,invoke,builtin,g2]
 ·rename_i args qi ho
  split at e
  case h_2=>cases e
  rename_i x1 x2 IP;obtain⟨o1,o2,rfl,hx1,hx2⟩:=W4 IP;have cJ:=h.ev o1;have aO:=h.ev o2;rw[hx1]at cJ;rw[hx2]at aO;rw[Zl,ALe]at e;obtain⟨r,e1,e⟩:=e;obtain⟨⟨t',x',rfl⟩,p1,p2⟩:=ABi e1;obtain⟨r0,val,h1,h2,h3⟩:=Te (P:=P) (big:=false) e1 cJ aO qi #[] o.type;cases h1;refine⟨val,.c (.v t' x'),h3,e,fun w' _=> ?_⟩;obtain⟨r1,val',g1,g2,g3⟩:=Te (P:=P) (big:=false) e1 (MI (E':=E) (w':=w') (vw':=σ.bx) p1 cJ) (MI p2 aO) qi #[] o.type;cases g1;have:=jI h3 g3;subst this;simp only[AL6,APB]at g2;simp[execOp,ho,resolve,invoke,builtin,g2]
 simp_all
end
end Go.Fw
end
section
namespace Go.Fw
section
variable{P:Program} {md:Region.Mode} {ops:Array Oper} {Q:Exit→Act→World→Prop}
theorem nL.refl(K:Nat→Prop)(w:World):nL K w w:=fun _ _=>rfl
def uY(P:Program)(md:Region.Mode)(ops:Array Oper)(Q:Exit→Act→World→Prop):Nat→Array Bool→(Nat→Prop)→Act→World→Prop
 |0,listed,_,a,w=>Region.ready md ops listed=[]∧Q .normal a w
 |fuel+1,listed,K,a,w=>(Region.ready md ops listed=[]→Q .normal a w)∧
  ∀i∈Region.ready md ops listed,wpOp P ops Q i (fun a' w' => ∃K':Nat→Prop,(∀c,K c→K' c)∧nL K w w'∧uY P md ops Q fuel (listed.setIfInBounds i true) K' a' w') a w
theorem rh:∀(fuel:Nat) (listed:Array Bool) (K:Nat→Prop) (a:Act) (w:World),uY P md ops Q fuel listed K a w→wpAny P md ops Q fuel listed a w
 |0,_,_,_,_,h=>h
 |fuel+1,_,_,_,_,h=>⟨h.1,fun i hi=>wpOp_mono (fun a' w' ⟨K',_,_,h'⟩=>rh fuel _ K' a' w' h') (h.2 i hi)⟩
theorem YieldsIf.mono{S S':World→Prop}{o:Oper}{v:Value}{a:Act}(h:YieldsIf P ops S o v a)(hs:∀w,S' w→S w):YieldsIf P ops S' o v a:=
 h.imp (fun⟨h1,h2⟩=>⟨h1,fun w hw=>h2 w (hs w hw)⟩) id
theorem lq{i:Nat}{oi:Oper}{v:Value}(hi:ops[i]? =some oi)(ABL:∀(j:Nat) (o:Oper) cs b,ops[j]? =some o→o.op≠ .select cs b)(hQ:∀c a w,¬Q (.panic c) a w):
  ∀(fuel:Nat) (listed:Array Bool) (K:Nat→Prop) (a:Act) (w:World),
   (∀j oj,ops[j]? =some oj→j≠i→listed.getD j true=false→(∀e∈oj.after,Region.binds md e=true→e.on≠i)→oi.apart ops oj=true)→
   i∈Region.ready md ops listed→YieldsIf P ops (nL K w) oi v a→uY P md ops Q fuel (listed.setIfInBounds i true) K (a.put oi.dst v) w→uY P md ops Q (fuel+1) listed K a w:=by
 intro fuel
 induction fuel with
 |zero=>
  intro listed K a w _ hr hy H;refine⟨fun h=>(by simp_all),fun j hj=> ?_⟩;by_cases hji:j=i
  ·subst hji;exact hy.wpOp hi (nL.refl K w) ⟨K,fun _ h=>h,nL.refl K w,H⟩
  ·have:=ready_mono hj hji
   rw[H.1]at this;cases this
 |succ fuel ih=>
  intro listed K a w bu hr hy H;refine⟨fun h=>(by simp_all),fun j hj=> ?_⟩;by_cases hji:j=i
  ·subst hji;exact hy.wpOp hi (nL.refl K w) ⟨K,fun _ h=>h,nL.refl K w,H⟩
  ·have h1:=H.2 j (ready_mono hj hji)
   obtain⟨hjun,oj,hoj,gk⟩:=mem_ready.1 hj;have ATM:∀e∈oj.after,Region.binds md e=true→e.on≠i:=fun e he hb heq=>by
    grind[mem_ready,Nat.lt_or_ge,Array.getElem?_eq_none]
   have h2:=wpOp_putIf hoj (bu j oj hoj hji hjun ATM) (fun cs b=>ABL i oi cs b hi) (fun cs b=>ABL j oj cs b hoj) (fun c a w h=>absurd h (hQ c _ w)) hy h1;have AO1:∀k ok,ops[k]? =some ok→k≠i→(listed.setIfInBounds j true).getD k true=false→
     (∀e∈ok.after,Region.binds md e=true→e.on≠i)→oi.apart ops ok=true:=fun k ok hk hki hun hno=>by
    refine bu k ok hk hki ?_ hno
    by_cases hjk:j=k
    all_goals simp_all
   refine wpOp_mono (fun a' w' h3=> ?_) h2;obtain⟨yu,K',hK,hs,ht⟩:=h3;refine⟨K',hK,hs,ih (listed.setIfInBounds j true) K' a' w' AO1 (ready_mono hr (Ne.symm hji)) (YieldsIf.mono yu fun w'' AVt c hc=>(AVt c (hK c hc)).trans (hs c hc)) ?_⟩;grind[Array.setIfInBounds_comm]
end
theorem lO{Y:Type}{f:Nat→List Bool→Option Y}{y:Y}:∀{rs:AAs},(∀ω,tZ f rs ω=some y)→ ∀i∈rs,∀ω,f i ω=some y
 |[i],h,j,hj,ω=>by
  simp at hj;subst hj;exact h ω
 |i::j::r,h,k,hk,ω=>by
  rcases APr.1 hk with rfl|hk
  ·exact h (true::ω)
  ·exact lO (rs:=j::r) (fun ω=>h (false::ω)) k hk ω
theorem vH{σ:St}{t:Nat}{b:Bool}(e:σ.tm[t]? =some (.c (.v .bool b))):σ.put (some t) (.c (.v .bool b))=σ:=by
 simp only[St.put];obtain⟨tm,bx⟩:=σ;simp only[St.mk.injEq,AQc];obtain⟨Hw,he⟩:=ALO.1 e;apply ARn;grind
theorem qz{Y I:Type}[Nonempty I]{C:Zg}{ops:Array Oper}{o:Oper}{kn:I→St→Option Y}{σ:St}{y:Y}{E:Env}{a:Act}{w:World}(h:Rel E σ a w)
  (e:∀ω,yO C ops o (kn ω) σ=some y):
  (Region.wanted o (yielded ops a.tmps)=true∧ ∀ω,(XE C.T C.Γ o σ fun x σ' =>kn ω (σ'.put o.dst x))=some y)∨
  (Region.wanted o (yielded ops a.tmps)=false∧ ∀ω,kn ω (σ.put o.dst (.NA []))=some y):=by
 unfold yO at e;cases hg:o.guard with
 |none=>
  simp only[hg]at e;grind[Region.wanted]
 |some q=>
  obtain⟨j,want⟩:=q;simp only[hg]at e;cases ht:(ops[j]?).bind (·.dst)with
  |none=>
   simp_all
  |some t=>
   simp only[ht]at e;obtain⟨i0⟩:= ‹Nonempty I›;have e0:=e i0;split at e0
   ·rename_i b hb
    simp only[hb]at e;obtain⟨v,hv,hx⟩:=h.tmp hb;have hvb:=SC (E:=E) (w:=w) (vw:=σ.bx) hx;subst hvb;have hy:yielded ops a.tmps j=some b:=by rw[aZ ht hv];rfl
    have hk:=vH hb;cases b with
    |true=>
     simp only[ANZ,tt,hk]at e;cases want with
     |true=>grind[Region.wanted]
     |false=>grind[Region.wanted]
    |false=>
     simp only[AL5,ff,hk]at e;cases want with
     |true=>grind[Region.wanted]
     |false=>grind[Region.wanted]
   ·rename_i hb
    simp only[hb]at e;obtain⟨v,hv,vs,rfl,hx⟩:=h.tmp hb;grind[yielded,aZ,Region.wanted]
   simp_all
theorem ACN{ops:Array Oper}{o:Oper}{σ:St}{E:Env}{a:Act}{w:World}(h:Rel E σ a w)(e:idle ops σ o=true):Region.wanted o (yielded ops a.tmps)=false:=by
 unfold idle at e;cases hg:o.guard with
 |none=>simp_all
 |some q=>
  obtain⟨j,want⟩:=q;simp only[hg]at e;cases ht:(ops[j]?).bind (·.dst)with
  |none=>simp_all
  |some t=>
   simp only[ht]at e;split at e
   ·rename_i b hb
    obtain⟨v,hv,hx⟩:=h.tmp hb;have hvb:=SC (E:=E) (w:=w) (vw:=σ.bx) hx;grind[yielded,aZ,Region.wanted]
   ·rename_i hb
    obtain⟨v,hv,vs,rfl,hx⟩:=h.tmp hb;grind[yielded,aZ,Region.wanted]
   simp_all
theorem rT{Y I:Type}[Nonempty I]{C:Zg}{ops:Array Oper}{i:Nat}{o:Oper}(ho:ops[i]? =some o){kn:I→St→Option Y}{σ:St}{y:Y}{E:Env}{a:Act}{w:World}(h:Rel E σ a w)
  (e:∀ω,yh C ops i (kn ω) σ=some y):
  (Region.wanted o (yielded ops a.tmps)=true∧ ∀ω,(XE C.T C.Γ o σ fun x σ' =>kn ω (σ'.put o.dst x))=some y)∨
  (Region.wanted o (yielded ops a.tmps)=false∧ ∀ω,kn ω (σ.put o.dst (.NA []))=some y):=
 qz h fun ω=>by
  grind[yh]
theorem ADN{hint t:AAs}{E E':Env}{bx Qd:List Bx}{w w':World}(h:RP t E bx w E' Qd w')(ht:∀b∈t,b∉hint)(ha:∀b∈hint,js Qd b=false):
  (∀c,Kof hint E w bx c→Kof hint E' w' Qd c)∧nL (Kof hint E w bx) w w':=by
 have key:∀n B,n∈hint→bx[n]? =some B→ ∃B',Qd[n]? =some B'∧VB B B'∧ ∀c,wF E w n B c→w'.heap[c]? =w.heap[c]?:=by
  intro n B hn hB;have hd:=ha n hn;unfold js at hd;split at hd
  ·cases hd
  ·rename_i B' cq Tb
   obtain⟨h1,h2⟩:=h.frame n B B' (fun hm=>ht n hm hn) hB Tb cq;simp_all
  simp_all
 refine⟨fun c hc=> ?_,fun c hc=> ?_⟩
 ·rcases hc with hc|⟨n,B,hn,hB,hc⟩
  ·exact .inl (h.base.T c hc)
  ·obtain⟨B',Tb,hs,hh⟩:=key n B hn hB
   have hid:=h.ids n (ALO.1 hB).1;refine .inr ⟨n,B',hn,Tb,?_⟩;cases B with
   |mem cs=>
    cases B' with
    |mem dR=>grind[wF]
    |sl _ _ _=>exact hs.elim
    |dead=>exact hs.elim
   |sl d r rows=>
    cases B' with
    |mem dR=>exact hs.elim
    |dead=>exact hs.elim
    |sl d' r' Cx=>
     simp only[VB,ANo]at hs;obtain⟨rfl,hs⟩:=hs;obtain rfl:=AQJ hs;grind[wF,mz]
   |dead=>exact hc.elim
 ·rcases hc with hc|⟨n,B,hn,hB,hc⟩
  ·exact h.base.heap c hc
  grind
theorem ZM{Y:Type}{C:Zg}{hint:AAs}{ops:Array Oper}{kn:List Bool→St→Option Y}{fuel:Nat}{listed:Array Bool}{ω:List Bool}{σ:St}{y:Y}(e:UO C hint ops kn fuel listed ω σ=some y):∀b∈hint,js σ.bx b=false:=by
 grind[UO,List.all_eq_true]
theorem sw{Y:Type}{P:Program}{C:Zg}(hT:En P C.T)(hΓ:gl P C.Γ){E0:Env}{w0:World}{N nb:Nat}{hint:AAs}{ops:Array Oper}{kn:List Bool→St→Option Y}{y:Y}{Q:Exit→Act→World→Prop}
  (ABL:Region.noSelect ops=true) (hP:∀c a w,¬Q (.panic c) a w) (hk:∀E σ a w,Ok E0 w0 N nb E σ a w→(∀ω,kn ω σ=some y)→Q .normal a w):
  ∀(fuel:Nat) {listed:Array Bool} {E:Env} {σ:St} {a:Act} {w:World},Ok E0 w0 N nb E σ a w→(∀ω,UO C hint ops kn fuel listed ω σ=some y)→uY P .any ops Q fuel listed (Kof hint E w σ.bx) a w:=by
 intro fuel
 induction fuel with
 |zero=>
  intro listed E σ a w h e;have e1:=fun ω=>e ω
  unfold UO at e1;have zm:=ZM (e []);have AO6:(hint.all fun b=> !js σ.bx b)=true:=AQj.2 fun b hb=>by simp_all
  simp only[AO6,AQV]at e1;cases hr:Region.ready .any ops listed with
  |nil=>
   simp only[hr]at e1;exact⟨hr,hk E σ a w h e1⟩
  |cons i rs=>
   simp_all
 |succ fuel ih=>
  intro listed E σ a w h e;have e1:=fun ω=>e ω
  unfold UO at e1;have zm:=ZM (e []);have AO6:(hint.all fun b=> !js σ.bx b)=true:=AQj.2 fun b hb=>by simp_all
  simp only[AO6,AQV]at e1;cases hr:Region.ready .any ops listed with
  |nil=>
   simp only[hr]at e1;exact⟨fun _=>hk E σ a w h e1,by simp_all⟩
  |cons i0 rs=>
   simp only[hr]at e1;cases hf:(i0::rs).find? (pt hint ops listed σ)with
   |some i=>
    simp only[hf]at e1;have hi:=ATl hf;have ht:=List.find?_some hf
    unfold pt at ht;cases ho:ops[i]? with
    |none=>simp_all
    |some o=>
     simp only[ho,ALo]at ht;have bu:=Region.free_spec ho ht.2;rw[←hr]at hi;have hy:=rT (I:=List Bool) (kn:=fun ω σ' =>UO C hint ops kn fuel (listed.setIfInBounds i true) ω σ') ho h.rel e1;rcases hy with⟨hw,hx⟩|⟨hw,hx⟩
     ·have hq:ij hint σ o.op=true:=by
       rcases AQd _ _▸ht.1 with hq|hi
       ·omega
       ·rw[ACN h.rel hi]at hw
        cases hw
      obtain⟨x,σ',hx0,hx1⟩:=ks hx;obtain⟨v,x',q1,q2,q3⟩:=xX hT h.rel hq hx0;simp only[k0,ALL,AQD]at q2;obtain⟨rfl,rfl⟩:=q2;have ic:=ih (h.put o.dst q1) hx1;have tv:(σ.put o.dst x').bx=σ.bx:=by cases o.dst<;>rfl
      rw[tv]at ic;exact lq ho (Region.noSelect_spec ABL) hP fuel listed _ a w bu hi (.inl ⟨hw,q3⟩) ic
     ·have ic:=ih (h.put o.dst oZ) hx
      have tv:(σ.put o.dst (.NA [])).bx=σ.bx:=by cases o.dst<;>rfl
      rw[tv]at ic;exact lq ho (Region.noSelect_spec ABL) hP fuel listed _ a w bu hi (.inr ⟨hw,rfl⟩) ic
   |none=>
    simp only[hf]at e1;have gk:=lO e1;refine⟨fun h0=>(by simp_all),fun i hi=> ?_⟩;rw[hr]at hi;have hx:=gk i hi;cases ho:ops[i]? with
    |none=>
     simp_all
    |some o=>
     simp only[ho]at hx;have htc:(Kk C.Γ σ o.op).all (fun b=> !hint.contains b)=true:=by
      have:=hx [];simp_all
     simp only[htc,AQV]at hx;have htn:∀b∈Kk C.Γ σ o.op,b∉hint:=fun b hb hh=>by
      simp_all
     unfold wpOp;simp only[ho];rcases rT (I:=List Bool) (kn:=fun ω σ' =>UO C hint ops kn fuel (listed.setIfInBounds i true) ω σ') ho h.rel hx with⟨hw,hx⟩|⟨hw,hx⟩
     ·rw[ALC hw]
      obtain⟨x,σ',hx0,hx1⟩:=ks hx;refine .inl (yo hT hΓ h.rel hx0 fun v w' E' x' σ'' g1 g2 g3 g4 g5=> ?_);simp only[k0,ALL,AQD]at g5;obtain⟨rfl,rfl⟩:=g5;have tv:(σ''.put o.dst x').bx=σ''.bx:=by cases o.dst<;>rfl
      have AUK:=ZM (hx1 []);rw[tv]at AUK;obtain⟨k1,k2⟩:=ADN g3 htn AUK;have ic:=ih ((h.next g1 g3 g4).put o.dst g2) hx1;grind
     ·rw[ALG (by simp[hw])]
      have ic:=ih (h.put o.dst oZ) hx;have tv:(σ.put o.dst (.NA [])).bx=σ.bx:=by cases o.dst<;>rfl
      grind[nL.refl]
end Go.Fw
end
section
namespace Go.Fw
theorem Rel.heap{E:Env}{σ:St}{a:Act}{w w':World}(h:Rel E σ a w)(hw:w'.heap=w.heap):Rel E σ a w':=by
 have keep:Sz E w σ.bx E w' σ.bx:=by
  refine⟨APM _,fun _ _=>rfl,fun _ h=>h,fun _ h=>h,h.bx.st,fun _ _=>by rw[hw],fun b d r rows hb e=>⟨d,rows,e,fun p hp q ys hg=>⟨hp,⟨ys,hg,rfl⟩,fun hh he=> ?_⟩⟩⟩;obtain⟨Fs,⟨f1,f2⟩,_⟩:=h.bx;have hF:Fs[b]? =some (Fs[b]'(by omega)):=ALD _;exact sx (f2 b _ _ e hF).2 (fun _ _=>by rw[hw]) (fun _ _=>by rw[hw]) hp hg he
 exact⟨h.Ns,h.tm.imp fun _ _ hx=>O_ keep hx,h.bx.turn (fun _ _ hv=>GD keep hv) (fun _ h=>h) (fun _ _=>rfl) (fun _ _=>rfl) (fun _ _ _=>by rw[hw]) fun F hF=>⟨hF.nodup,hF.free,fun c hc=>by rw[hw];exact hF.lt c hc,hF.st,fun c hc=>by rw[hw];exact hF.cX c hc⟩⟩
theorem Ok.drawn{E0 E:Env}{w0 w:World}{N nb:Nat}{σ:St}{a:Act}(h:Ok E0 w0 N nb E σ a w)(n:Nat):Ok E0 w0 N nb E σ a { w with drawn:=n }:=
 ⟨h.rel.heap rfl,⟨h.base.T,h.base.S,h.base.Tof,h.base.yH,h.base.heap,h.base.os,h.base.tape,h.base.output,h.base.size⟩,h.tm,h.qF,h.ids⟩
theorem kz{Y I:Type}[Nonempty I]{P:Program}{C:Zg}(hT:En P C.T)(hΓ:gl P C.Γ){E0:Env}{w0:World}{N nb:Nat}{all:Array Oper}{kn:I→St→Option Y}{y:Y}{Q:Exit→Act→World→Prop}
  (hk:∀E σ a w,Ok E0 w0 N nb E σ a w→(∀ω,kn ω σ=some y)→Q .normal a w):∀{l:List Oper} {E:Env} {σ:St} {a:Act} {w:World},Ok E0 w0 N nb E σ a w→(∀ω,sQ C all l (kn ω) σ=some y)→wpList P all Q l a w
 |[],E,σ,a,w,h,e=>hk E σ a w h e
 |o::rest,E,σ,a,w,h,e=>by
  unfold wpList;rcases qz (kn:=fun ω σ=>sQ C all rest (kn ω) σ) h.rel e with⟨hw,hx⟩|⟨hw,hx⟩
  ·rw[ALC hw]
   obtain⟨x,σ',hx0,hx1⟩:=ks hx;refine .inl (yo hT hΓ h.rel hx0 fun v w' E' x' σ'' g1 g2 g3 g4 g5=> ?_);simp only[k0,ALL,AQD]at g5;obtain⟨rfl,rfl⟩:=g5;exact kz hT hΓ hk ((h.next g1 g3 g4).put o.dst g2) hx1
  ·rw[ALG (by simp[hw])]
   exact kz hT hΓ hk (h.put o.dst oZ) hx
def Ol(P:Program)(body:Code)(Q:Exit→Act→World→Prop)(a:Act)(w:World):Prop:=
 ∀(b:Frame) (k:List Item) (cs:List Frame),∃e a' w',Q e a' w'∧Arrives P (lone (b.at a (.code body:: .inLoop body::k)) cs w) b k cs e a' w'
theorem Ol.wp{P:Program}{body:Code}{Q:Exit→Act→World→Prop}{a:Act}{w:World}(h:Ol P body Q a w):(Code.loop body).wp P Q a w:=fun b k cs=>by
 obtain⟨e,a',w',hq,cO⟩:=h b k cs;exact⟨e,a',w',hq,.of_steps (.one step_loop) cO⟩
theorem Ol.AGl{P:Program}{body:Code}{Q:Exit→Act→World→Prop}{a:Act}{w:World}(h:body.wp P (Exit.then (Ol P body Q) Q) a w):Ol P body Q a w:=fun b k cs=>by
 obtain⟨e,a₁,w₁,hq,cO⟩:=h b (.inLoop body::k) cs;cases e with
 |normal=>
  obtain⟨e₂,a₂,w₂,hq₂,harr₂⟩:=hq b k cs;exact⟨e₂,a₂,w₂,hq₂,.of_steps (Steps.trans cO (.one step_inLoop)) harr₂⟩
 |exit id=>exact⟨_,a₁,w₁,hq,.pass (x:= .inLoop body) rfl (fun _ _=> .inl (by simp)) cO⟩
 |goto l=>exact⟨_,a₁,w₁,hq,.pass (x:= .inLoop body) rfl (fun _ _=> .inl (by simp)) cO⟩
 |ret=>exact⟨_,a₁,w₁,hq,.pass (x:= .inLoop body) rfl (fun _ _=> .inl (by simp)) cO⟩
 |panic ch=>exact⟨_,a₁,w₁,hq,.pass (x:= .inLoop body) rfl (fun _ _=> .inl (by simp)) cO⟩
 |outgrown=>exact⟨_,a₁,w₁,hq,.pass (x:= .inLoop body) rfl (fun _ _=> .inl (by simp)) cO⟩
abbrev kP:=Exit→Act→World→Prop
def At(P:Program):Code→kP→Nat→Code→kP→Prop
 | .seq a b,Q,ℓ,body,Q' =>At P a (Exit.then (b.wp P Q) Q) ℓ body Q'∨At P b Q ℓ body Q'
 | .cond _ a b,Q,ℓ,body,Q' =>At P a Q ℓ body Q'∨At P b Q ℓ body Q'
 | .block id c,Q,ℓ,body,Q' =>At P c (Exit.inBlock id Q) ℓ body Q'
 | .loop c,Q,ℓ,body,Q' =>(first c= ℓ ∧body=c∧Q' =Q)∨At P c (Exit.then (Ol P c Q) Q) ℓ body Q'
 |_,_,_,_,_=>False
def dq(Q:kP):Prop:= ∀c a w,¬Q (.panic c) a w
theorem dq.then{Q:kP}(h:dq Q)(n:Act→World→Prop):dq (Exit.then n Q):=fun c a w hq=>h c a w hq
theorem dq.inBlock{Q:kP}(h:dq Q)(id:Nat):dq (Exit.inBlock id Q):=fun c a w hq=>h c a w hq
section
variable{Y:Type} {P:Program} {C:Zg} (hT:En P C.T) (hΓ:gl P C.Γ) (hm:P.follows .mixedOrders=true) {E0:Env} {w0:World} {N nb:Nat} {y:Y} {J:Nat→St→Option Y}
structure Good (E0:Env) (w0:World) (N nb:Nat) (y:Y) (kn:KN Y) (kx:Nat→KN Y) (kr:KN Y) (Q:kP):Prop where
 n:∀E σ a w,Ok E0 w0 N nb E σ a w→(∀ω,kn ω σ=some y)→Q .normal a w
 x:∀id E σ a w,Ok E0 w0 N nb E σ a w→(∀ω,kx id ω σ=some y)→Q (.exit id) a w
 r:∀E σ a w,Ok E0 w0 N nb E σ a w→(∀ω,kr ω σ=some y)→Q .ret a w
def JOk(P:Program)(E0:Env)(w0:World)(N nb:Nat)(y:Y)(J:Nat→St→Option Y)(cd:Code)(Q:kP):Prop:=
 ∀ ℓ body Q',At P cd Q ℓ body Q'→ ∀E σ a w,Ok E0 w0 N nb E σ a w→J ℓ σ=some y→Ol P body Q' a w
include hT hΓ hm in
theorem xk:∀{cd:Code} {kn:KN Y} {kx:Nat→KN Y} {kr:KN Y} {Q:kP} {E:Env} {σ:St} {a:Act} {w:World},dq Q→Good E0 w0 N nb y kn kx kr Q→JOk P E0 w0 N nb y J cd Q→Ok E0 w0 N nb E σ a w→
  (∀ω,run C J cd kn kx kr ω σ=some y)→cd.wp P Q a w:=by
 intro cd
 induction cd with
 |skip=>intro kn kx kr Q E σ a w hp hg hj h e;exact wp_skip (hg.n E σ a w h e)
 |region id ops draw=>
  intro kn kx kr Q E σ a w hp hg hj h e;simp only[run]at e;cases draw with
  |false=>
   simp only[AL6,APB]at e;exact wp_region_list (kz hT hΓ hg.n h e)
  |true=>
   simp only[AQV]at e;have hs:Region.noSelect ops=true:=by
    have:=e [];split at this
    ·rename_i hh;exact hh
    ·cases this
   simp only[hs,AQV]at e;exact wp_region_any hm (rh _ _ _ _ _ (sw hT hΓ hs hp hg.n _ (h.drawn _) e))
 |seq x z ihx ihz=>
  intro kn kx kr Q E σ a w hp hg hj h e;simp only[run]at e;refine wp_seq (ihx (hp.then _) ⟨fun E σ a w h e=>ihz hp hg (fun ℓ body Q' RQ=>hj ℓ body Q' (.inr RQ)) h e,fun id E σ a w h e=>hg.x id E σ a w h e,hg.r⟩ (fun ℓ body Q' RQ=>hj ℓ body Q' (.inl RQ)) h e)
 |cond c x z ihx ihz=>
  intro kn kx kr Q E σ a w hp hg hj h e;cases c with
  |tmp t=>
   simp only[run]at e;have e0:=e [];split at e0
   ·rename_i b hb
    simp only[hb]at e;obtain⟨v,hv,hx⟩:=h.rel.tmp hb;have hvb:=SC (E:=E) (w:=w) (vw:=σ.bx) hx;subst hvb;have hev:a.eval (.tmp t)= .bool b:=by simp[Act.eval,ATA,hv]
    have hk:=vH hb;cases b with
    |true=>
     simp only[ANZ,tt,hk]at e;exact wp_cond_true hev (ihx hp hg (fun ℓ body Q' RQ=>hj ℓ body Q' (.inl RQ)) h e)
    |false=>
     simp only[AL5,ff,hk]at e;exact wp_cond_false hev (ihz hp hg (fun ℓ body Q' RQ=>hj ℓ body Q' (.inr RQ)) h e)
   ·cases e0
  |_=>cases e []
 |block id c ih=>
  intro kn kx kr Q E σ a w hp hg hj h e;simp only[run]at e;refine wp_block (ih (hp.inBlock id) ⟨hg.n,fun j E σ a w h e=> ?_,hg.r⟩ (fun ℓ body Q' RQ=>hj ℓ body Q' RQ) h e);simp only[Exit.inBlock];split
  ·rename_i hid
   simp only[hid,AQV]at e;exact hg.n E σ a w h e
  ·rename_i hid
   simp only[hid,APB]at e;exact hg.x j E σ a w h e
 |loop body ih=>
  intro kn kx kr Q E σ a w hp hg hj h e;simp only[run]at e;exact Ol.wp (hj (first body) body Q (.inl ⟨rfl,rfl,rfl⟩) E σ a w h (e []))
 |exit id=>intro kn kx kr Q E σ a w hp hg hj h e;exact wp_exit (hg.x id E σ a w h e)
 |ret=>intro kn kx kr Q E σ a w hp hg hj h e;exact wp_ret (hg.r E σ a w h e)
 |_=>intro kn kx kr Q E σ a w hp hg hj h e;cases e []
end
end Go.Fw
end
section
namespace Go.Fw
def labels:Code→List Nat
 | .seq a b=>labels a++labels b
 | .cond _ a b=>labels a++labels b
 | .block _ c=>labels c
 | .loop c=>first c::labels c
 |_=>[]
theorem At.label{P:Program}:∀{cd:Code} {Q:kP} {ℓ :Nat} {body:Code} {Q':kP},At P cd Q ℓ body Q'→ ℓ ∈labels cd
 | .seq a b,Q,ℓ,body,Q',h=>by
  simp only[labels,AOO];exact h.imp At.label At.label
 | .cond _ a b,Q,ℓ,body,Q',h=>by
  simp only[labels,AOO];exact h.imp At.label At.label
 | .block _ c,Q,ℓ,body,Q',h=>At.label (cd:=c) h
 | .loop c,Q,ℓ,body,Q',h=>by
  simp only[labels,APr];exact h.imp (fun h=>h.1.symm) At.label
section
variable{Y:Type} {P:Program} {C:Zg} (hT:En P C.T) (hΓ:gl P C.Γ) (hm:P.follows .mixedOrders=true) {E0:Env} {w0:World} {N nb:Nat} {y:Y} {J:Nat→St→Option Y}
theorem RL{ℓ :Nat}:∀{cd:Code} {kn:KN Y} {kx:Nat→KN Y} {kr:KN Y},ℓ ∉labels cd→find C J ℓ cd kn kx kr=none
 | .seq a b,kn,kx,kr,h=>by
  simp only[labels,AOO,not_or]at h;simp only[find];rw[RL h.1];exact RL h.2
 | .cond _ a b,kn,kx,kr,h=>by
  simp only[labels,AOO,not_or]at h;simp only[find];rw[RL h.1];exact RL h.2
 | .block _ c,kn,kx,kr,h=>by simp only[find];exact RL (cd:=c) h
 | .loop c,kn,kx,kr,h=>by
  simp only[labels,APr,not_or]at h;simp only[find];rw[ALG (fun e=>h.1 e.symm)];exact RL h.2
 | .skip,_,_,_,_=>rfl
 | .region _ _ _,_,_,_,_=>rfl
 | .rangeFunc _ _ _ _,_,_,_,_=>rfl
 | .exit _,_,_,_,_=>rfl
 | .scope _,_,_,_,_=>rfl
 | .label _,_,_,_,_=>rfl
 | .goto _,_,_,_,_=>rfl
 | .ret,_,_,_,_=>rfl
 | .refuse _,_,_,_,_=>rfl
include hT hΓ hm in
theorem AIA{ℓ :Nat}:∀{cd:Code} {kn:KN Y} {kx:Nat→KN Y} {kr:KN Y} {Q:kP} {body:Code} {Q':kP},(labels cd).Nodup→dq Q→Good E0 w0 N nb y kn kx kr Q→JOk P E0 w0 N nb y J cd Q→At P cd Q ℓ body Q'→
  ∃kn' kx' kr',find C J ℓ cd kn kx kr=some (fun ω σ=>run C J body (fun _ σ=>J ℓ σ) kx' kr' ω σ)∧Good E0 w0 N nb y kn' kx' kr' Q'∧dq Q'∧JOk P E0 w0 N nb y J body (Exit.then (Ol P body Q') Q'):=by
 intro cd
 induction cd with
 |seq a b iha ihb=>
  intro kn kx kr Q body Q' hn hp hg hj RQ;simp only[labels,AOA]at hn;obtain⟨n1,n2,n3⟩:=hn;have hja:JOk P E0 w0 N nb y J a (Exit.then (b.wp P Q) Q):=fun ℓ body Q' RQ=>hj ℓ body Q' (.inl RQ)
  have hjb:JOk P E0 w0 N nb y J b Q:=fun ℓ body Q' RQ=>hj ℓ body Q' (.inr RQ)
  simp only[find];rcases RQ with RQ|RQ
  ·obtain⟨kn',kx',kr',h1,h2⟩:=iha n1 (hp.then _) (kn:=fun ω σ=>run C J b kn kx kr ω σ) (kx:=kx) (kr:=kr)
    ⟨fun E σ a w h e=>xk hT hΓ hm hp hg hjb h e,fun id E σ a w h e=>hg.x id E σ a w h e,hg.r⟩ hja RQ
   exact⟨kn',kx',kr',by rw[h1],h2⟩
  ·have: ℓ ∉labels a:=fun h=>n3 ℓ h ℓ RQ.label rfl
   rw[RL this];exact ihb n2 hp hg hjb RQ
 |cond c a b iha ihb=>
  intro kn kx kr Q body Q' hn hp hg hj RQ;simp only[labels,AOA]at hn;obtain⟨n1,n2,n3⟩:=hn;simp only[find];rcases RQ with RQ|RQ
  ·obtain⟨kn',kx',kr',h1,h2⟩:=iha n1 hp hg (fun ℓ body Q' RQ=>hj ℓ body Q' (.inl RQ)) RQ
   exact⟨kn',kx',kr',by rw[h1],h2⟩
  ·have: ℓ ∉labels a:=fun h=>n3 ℓ h ℓ RQ.label rfl
   rw[RL this];exact ihb n2 hp hg (fun ℓ body Q' RQ=>hj ℓ body Q' (.inr RQ)) RQ
 |block id c ih=>
  intro kn kx kr Q body Q' hn hp hg hj RQ;simp only[find];refine ih hn (hp.inBlock id) ⟨hg.n,fun j E σ a w h e=> ?_,hg.r⟩ (fun ℓ body Q' RQ=>hj ℓ body Q' RQ) RQ;simp only[Exit.inBlock];split
  ·rename_i hid
   simp only[hid,AQV]at e;exact hg.n E σ a w h e
  ·rename_i hid
   simp only[hid,APB]at e;exact hg.x j E σ a w h e
 |loop c ih=>
  intro kn kx kr Q body Q' hn hp hg hj RQ;simp only[labels,AS8]at hn;have hj':JOk P E0 w0 N nb y J c (Exit.then (Ol P c Q) Q):=fun ℓ body Q' RQ=>hj ℓ body Q' (.inr RQ)
  simp only[find];by_cases hl:first c= ℓ
  ·rw[ALC hl]
   rcases RQ with⟨_,rfl,rfl⟩|RQ
   ·exact⟨kn,kx,kr,rfl,hg,hp,hj'⟩
   ·exact absurd (hl▸RQ.label) hn.1
  ·rw[ALG hl]
   rcases RQ with⟨h,_⟩|RQ
   ·exact absurd h hl
   ·exact ih hn.2 (hp.then _) ⟨fun E σ a w h e=>hj (first c) c Q (.inl ⟨rfl,rfl,rfl⟩) E σ a w h (e []),fun id E σ a w h e=>hg.x id E σ a w h e,hg.r⟩ hj' RQ
 |_=>intro kn kx kr Q body Q' hn hp hg hj RQ;exact RQ.elim
end
theorem iI{E:Env}{w:World}{vw:List Bx}:∀{l:List (Nat×XP)} {x:Gy.V l} {vals:List Value} {tm:List XV},OG E w vw id l x vals→CR (XR E w vw) tm vals→CR (XR E w vw) (Gy.mk id l x tm) vals
 |[],_,_,_,_,h=>h
 |(i,p)::l,x,vals,tm,hs,h=>by
  obtain⟨⟨v,hv,hx⟩,hs⟩:=hs;simp only[Gy.mk];refine iI hs ?_
  have:=CR.set (i:=i) h hx;have e:vals.set i v=vals:=by
   apply ARn;grind
  simp_all
theorem CR.undef{E:Env}{w:World}{vw:List Bx}:∀{vals:List Value} {n:Nat},n=vals.length→CR (XR E w vw) (List.replicate n (.c .undef)) vals
 |[],n,h=>by subst h;trivial
 |v::vals,n,h=>by
  subst h;simp only[AN2,List.replicate_succ];exact⟨trivial,CR.undef rfl⟩
theorem sk.shared{E E1:Env}{w:World}{bx:List Bx}{m:PZ}{s:A5}{x:s.V}{vals:List Value}(h:sk E w bx m s x vals E1)(hb:C7 E w bx bx []):
  ∃E2,E2.Hz=E1.Hz∧E2.Hy=E1.Hy∧cl E w E2 w∧C7 E2 w (Jr.mk id s.Gr x.2) (Jr.mk id s.Gr x.2) []∧OG E2 w (Jr.mk id s.Gr x.2) id s.Dr x.1 vals:=by
 obtain⟨Fk,k1,k2,k3,k4⟩:=h.rest
 let E2:Env:={ E1 with S:=fun c=>E1.S c∨c∈Fk.flatten }
 have st1:=h.boxes.st;have keep:Sz E1 w (Jr.mk id s.Gr x.2) E2 w (Jr.mk id s.Gr x.2):=
  ⟨APM _,fun _ _=>rfl,fun _ h=>h,fun _ h=> .inl h,st1,fun _ _=>rfl,fun b d r rows _ e=>⟨d,rows,e,fun p hp q ys hg=>⟨hp,⟨ys,hg,rfl⟩,fun _ h=>h⟩⟩⟩
 refine⟨E2,rfl,rfl,⟨h.T,fun c hc=> .inl (h.S c hc),fun c hc=> ?_,fun c hc=> ?_,fun _ _=>rfl,rfl,rfl,rfl,APM _⟩,?_,?_⟩
 ·grind
 ·rcases hc with hc|hc
  ·exact h.yH c hc
  grind
 ·refine h.boxes.turn (E':=E2) (w':=w) (fun _ _ hv=>GD keep hv) (fun _ h=> .inl h) (fun _ _=>rfl) (fun _ _=>rfl) (fun _ _ _=>rfl) fun F hF=>⟨hF.nodup,hF.free,hF.lt,fun c hc=>hc.elim (hF.st c) fun h=>(k3 c h).2.2.2,hF.cX⟩
 ·have:∀{l:List (Nat×XP)} {z:Gy.V l},OG E1 w (Jr.mk id s.Gr x.2) id l z vals→OG E2 w (Jr.mk id s.Gr x.2) id l z vals:=by
   intro l
   induction l with
   |nil=>intro z h;trivial
   |cons q l ih=>
    obtain⟨i,p⟩:=q;intro z h;obtain⟨⟨v,hv,hx⟩,hs⟩:=h;exact⟨⟨v,hv,O_ keep hx⟩,ih hs⟩
  exact this h.Dr
theorem gJ:∀{l:List BP} {i n:Nat},(Tw i n l).length=l.length
 |[],_,_=>rfl
 |_::l,i,n=>by simp[Tw,gJ (l:=l)]
theorem fq:∀{l:List BP} {i n k b:Nat},(Tw i n l)[k]? =some (some b)→b=i+k∧b<n∧l[k]?≠some .gone
 |[],i,n,k,b,h=>by simp[Tw]at h
 |p::l,i,n,0,b,h=>by
  grind[Tw,List.getElem?_cons_zero,Option.some.injEq]
 |p::l,i,n,k+1,b,h=>by
  simp only[Tw,List.getElem?_cons_succ]at h;obtain⟨h1,h2,h3⟩:=fq h;grind
theorem fi:∀{l:List BP} {i n k:Nat} {p:BP},l[k]? =some p→p≠ .gone→i+k<n→(Tw i n l)[k]? =some (some (i+k))
 |q::l,i,n,0,p,h,hg,hn=>by
  simp at h;subst h;simp only[Tw,List.getElem?_cons_zero,ALL];simp_all
 |q::l,i,n,k+1,p,h,hg,hn=>by
  simp only[Tw,List.getElem?_cons_succ];rw[fi (l:=l) (i:=i+1) (k:=k) (by simp_all) hg (by omega)];grind
 |[],_,_,_,_,h,_,_=>by simp at h
theorem oE{l:List BP}{n:Nat}:pn (Tw 0 n l):=fun i j b h k=>by
 have:=(fq h).1;have:=(fq k).1;omega
end Go.Fw
end
section
namespace Go.Fw
structure AUw (P:Program) (f:Nat) (fn:Func) (c:Pj):Prop where
 at_:P.funcs[f]? =some fn
 call:∀args w,(callFunc f args).run P w= .ok (.enter f args) w
 con:c.ok=true
 tmps:c.ins.Dr.length≤fn.ntmps
 labels:∀code,fn.body=some code→(labels code).Nodup
section
variable{P:Program} {C:Zg} (hT:En P C.T) {E:Env} {σ:St} {a:Act} {w:World}
include hT in
theorem ADD(h:Rel E σ a w):
  ∀{rs:List ResultVar} {xs:List XV},rs.mapM (AB5 C.T σ)=some xs→ ∃vs,(∀f:ResultVar→Sem Value,(∀u,f (.tmp u)=pure (a.tmps.getD u undef))→(∀b t,f (.cell b t)=(do loadVar t (←asAddr (a.tmps.getD b undef))))→
   (rs.mapM f).run P w= .ok vs w)∧CR (XR E w σ.bx) xs vs:=by
 intro rs
 induction rs with
 |nil=>
  intro xs e;have hx:xs=[]:=by simpa using e.symm
  subst hx;exact⟨[],fun f _ _=>by simp,trivial⟩
 |cons r rs ih=>
  intro xs e;rw[AVG]at e;simp only[Option.bind_eq_bind,ALe,Option.pure_def,ALL]at e;obtain⟨x,e1,ys,e2,rfl⟩:=e;obtain⟨vs,h1,h2⟩:=ih e2;have one:∃v,(∀f:ResultVar→Sem Value,(∀u,f (.tmp u)=pure (a.tmps.getD u undef))→(∀b t,f (.cell b t)=(do loadVar t (←asAddr (a.tmps.getD b undef))))→(f r).run P w= .ok v w)∧XR E w σ.bx x v:=by
   cases r with
   |tmp t=>
    simp only[AB5]at e1;obtain⟨v,hv,hx⟩:=h.tmp e1;refine⟨v,fun f hf hc=> ?_,hx⟩;rw[hf];simp[ATA,hv]
   |cell b t=>
    simp only[AB5]at e1;split at e1
    case h_2=>cases e1
    rename_i z hz;obtain⟨v,hv,hx⟩:=h.tmp hz;obtain⟨Fs,hB,hS⟩:=h.bx;cases z with
    |agg l=>simp[ln]at e1
    |NA l=>simp[ln]at e1
    |c ad=>
     obtain⟨bb,oo,u,cell,hp,_,q2,q3⟩:=rQ hT hB hS.st e1 hx;refine⟨u,fun f hf hc=> ?_,q2⟩;have hgd:a.tmps.getD b undef=v:=by simp[ATA,hv]
     have:=q3 w rfl;rw[hc,hgd,hp];rw[hp]at this;simpa[Instr.loadAt,Instr.sureAddr,asAddr]using this
  obtain⟨v,g1,g2⟩:=one;refine⟨v::vs,fun f hf hc=> ?_,g2,h2⟩;rw[AVG];simp[g1 f hf hc,h1 f hf hc]
theorem gH{vw:List Bx}:∀{l:List XV} {q:List (AV ⊕ List AV)} {vs:List Value},uK l=some q→CR (XR E w vw) l vs→CR (TR E w vw) q vs
 |[],q,[],e,_=>by
  simp only[uK,ALL]at e;subst e;trivial
 |[],_,_::_,_,h=>h.elim
 | .c x::l,q,v::vs,e,h=>by
  simp only[uK,ALN]at e;obtain⟨r,e1,rfl⟩:=e;exact⟨h.1,gH e1 h.2⟩
 | .agg x::l,q,v::vs,e,h=>by
  simp only[uK,ALN]at e;obtain⟨r,e1,rfl⟩:=e;exact⟨h.1,gH e1 h.2⟩
 | .NA _::_,_,_,e,_=>by simp[uK]at e
 | .c _::_,_,[],_,h=>h.elim
 | .agg _::_,_,[],_,h=>h.elim
include hT in
theorem qK(h:Rel E σ a w){fn:Func}{x:XV}(e:gy C.T σ fn.results.toList=some x):∃v,(results fn a.tmps).run P w= .ok v w∧XR E w σ.bx x v:=by
 unfold gy at e;have key:∀xs,fn.results.toList.mapM (AB5 C.T σ)=some xs→ ∃vs:List Value,(results fn a.tmps).run P w= .ok (if h:vs.toArray.size=1 then vs.toArray[0]else .tuple vs.toArray) w∧CR (XR E w σ.bx) xs vs:=by
  intro xs hx;obtain⟨vs,h1,h2⟩:=ADD (P:=P) hT h hx;refine⟨vs,?_,h2⟩;unfold results;rw[Array.mapM_eq_mapM_toList];simp only[Sem.run_bind,Sem.run_map];rw[h1 _ (fun _=>rfl) (fun _ _=>rfl)];simp only[Result.andThen_ok,Sem.run_pure]
 split at e
 ·rename_i z hz
  cases e;obtain⟨vs,h1,h2⟩:=key _ hz
  match vs,h2 with
  |[v],h2=>exact⟨v,by simpa using h1,h2.1⟩
  |v::_::_,h2=>exact h2.2.elim
  |[],h2=>exact h2.elim
 ·rename_i l hl hz
  simp only[ALN]at e;obtain⟨q,e1,rfl⟩:=e;obtain⟨vs,h1,h2⟩:=key _ hz;have cq: ¬vs.toArray.size=1:=fun hs=>by
   have:=CR.len h2
   match l,this with
   |[z],_=>exact hl z rfl
   |[],t=>simp at t hs;omega
   |_::_::_,t=>simp at t hs;omega
  rw[dif_neg cq]at h1;exact⟨_,h1,vs.toArray,rfl,by simpa using gH e1 h2⟩
 ·cases e
end
theorem fG{E:Env}{w:World}{vw:List Bx}{more:List Value}:∀{l:List (Nat×XP)} {x:Gy.V l} {vals:List Value},OG E w vw id l x vals→OG E w vw id l x (vals++more)
 |[],_,_,_=>trivial
 |(i,p)::l,x,vals,h=>by
  obtain⟨⟨v,hv,hx⟩,hs⟩:=h;exact⟨⟨v,by grind,hx⟩,fG hs⟩
def yU(C:Zg)(c:Pj)(fn:Func)(code:Code)(J:Nat→Nat→St→Option c.outs.V):Prop:=
 ∀ ℓ,ℓ ∈labels code→ ∃(s:A5) (F:Nat→s.V→Option c.outs.V),(∀n,J n ℓ =jump c.ins.Gr.length s (F n))∧(∀v,F 0 v=none)∧
  ∀n v y,F (n+1) v=some y→ ∀ω,HV C c fn (J n) ℓ ω (s.st fn.ntmps v)=some y
section
variable{P:Program} {C:Zg} (hT:En P C.T) (hΓ:gl P C.Γ) (hm:P.follows .mixedOrders=true) {fn:Func} {c:Pj}
def AOR(c:Pj)(E0:Env)(w0:World)(u:c.outs.V)(e:Ending)(w':World):Prop:=
 ∃x E',e= .returned x∧cl E0 w0 E' w'∧C7 E' w' (Jr.mk id c.outs.Gr u.2) (Jr.mk id c.outs.Gr u.2) []∧
  OG E' w' (Jr.mk id c.outs.Gr u.2) id c.outs.Dr u.1 [x]∧ ∀i,i<c.ins.Gr.length→alive c.outs.Gr i=true→E'.Hz i=E0.Hz i∧E'.Hy i=E0.Hy i
theorem Ok.opens{E0 E:Env}{w0 w:World}{N nb:Nat}{σ:St}{a:Act}(h:Ok E0 w0 N nb E σ a w)(s:A5):∃E',Ok E0 w0 N nb E' { σ with bx:=s.opens σ.bx } a w∧
  (∀(i:Nat) d r,s.Gr[i]? =some (.sl d r)→E'.Hy (σ.bx.length+i)= .slice none 0 0)∧(∀x v,XR E w σ.bx x v→XR E' w (s.opens σ.bx) x v):=by
 obtain⟨E',h1,h2,h3,h4⟩:=rb h.rel s;exact⟨E',h.next h1 h2 rfl,h3,h4⟩
theorem ABo{E E':Env}{w:World}{vw:List Bx}{b:Nat}(h:Le E E')(st:∀c,E.S c→E.T c):Sz E w vw E' w (vw.set b .dead):=by
 refine⟨by simp,fun b _=>by rw[h.Hz],h.T,h.S,st,fun _ _=>rfl,fun c d r rows _ e=> ?_⟩;by_cases hc:c=b
 ·simp_all
 ·rw[AQQ (fun e=>hc e.symm)]at e
  exact⟨d,rows,e,fun p hp q ys hg=>⟨hp,⟨ys,hg,rfl⟩,fun h' hh=>by rw[h.Hy];omega⟩⟩
theorem AGx{E:Env}{σ:St}{a:Act}{w:World}(h:Rel E σ a w)(b:Nat):∃E',Rel E' (σ.pQ b) a w∧Le E E':=by
 unfold St.pQ;split
 case h_2=>grind[Le.refl]
 rename_i d r rows hb;obtain⟨F,hF,hB⟩:=h.bx.take hb;have Xx:C7 E w σ.bx (σ.bx.set b .dead) ([]++F++[]):=by simp_all
 obtain⟨hle,hB3⟩:=Xx.share;have hk:=ABo (vw:=σ.bx) (b:=b) (w:=w) hle h.bx.st;have hk2:Sz E w σ.bx { E with S:=fun c=>E.S c∨c∈F,T:=fun c=>E.T c∨c∈F } w ((σ.bx.set b .dead).map (Bx.pQ b r rows)):=by
  refine⟨by simp,hk.Hz,hk.T,hk.S,hk.st,hk.heap,fun c d' r' Cx hc e=> ?_⟩;rw[AQN,ALN]at e;obtain⟨B,e,eB⟩:=e;cases B with
  |mem cs=>cases eB
  |dead=>cases eB
  |sl d0 r0 Rx=>
   cases eB;grind
 have hv:∀x v,VR E w σ.bx x v→VR { E with S:=fun c=>E.S c∨c∈F,T:=fun c=>E.T c∨c∈F } w ((σ.bx.set b .dead).map (Bx.pQ b r rows)) (x.pQ b r rows) v:=fun x v hx=>by
  unfold AV.pQ;split
  ·rename_i c
   split
   ·rename_i hc
    subst hc;obtain⟨h1,h2⟩:=hx;rw[hb]at h2;have hv:=h2.2.2;rw[C4]at hv;simp only[ALL]at hv;have:=XH hF.2;rw[hv]at this;exact Fa (fun c hc=>hc) (fun _ _=>rfl) this
   grind[GD]
  grind[GD]
 refine⟨_,⟨h.Ns,?_,?_⟩,hle⟩
 ·refine CR.Ly _ (fun x v hx=> ?_) h.tm
  unfold XV.pQ;split
  ·exact hv _ _ hx
  grind[O_]
 ·obtain⟨Fs,⟨hl,h1⟩,h2⟩:=hB
  have h2':Sep E w (F++Fs.flatten):=h2.perm (by grind);refine⟨Fs,⟨by simp_all,fun k B G Tb hG=> ?_⟩,?_⟩
  ·rw[AQN,ALN]at Tb
   obtain⟨B0,e,rfl⟩:=Tb;have h3:=h1 k B0 G e hG;cases B0 with
   |mem cs=>
    obtain⟨rfl,arr,ty,fr,a1,a2,a3⟩:=h3;exact⟨rfl,arr,ty,fr,a1,a2,CR.Ly _ (fun x v hx=>hv x v hx) a3⟩
   |sl d0 r0 Rx=>exact⟨h3.1,EO hle.S (fun _ _=>rfl) (fun _ _=>rfl) h3.2⟩
   |dead=>exact h3
  ·rw[ANI]
   have st:=h.bx.st;refine⟨(AOA.1 h2'.nodup).2.1,fun c hc ht=> ?_,fun c hc=>h2'.lt c (by simp_all),fun c hc=>hc.imp (st c) id,fun c hc=>hc.elim (h2'.cX c) fun h' =>h2'.lt c (by simp[h'])⟩;rcases ht with ht|ht
   ·exact h2'.free c (AOO.2 (.inr hc)) ht
   ·exact(AOA.1 h2'.nodup).2.2 c ht c hc rfl
theorem ABH{σ:St}{b i:Nat}(h:σ.bx[i]? =some .dead):(σ.pQ b).bx[i]? =some .dead:=by
 unfold St.pQ;split
 ·simp only[AQN,List.getElem?_set]
  split
  ·simp_all
  ·rw[h];rfl
 omega
theorem yW{σ:St}{b:Nat}:(σ.pQ b).bx.length=σ.bx.length∧(σ.pQ b).tm.length=σ.tm.length:=by
 grind[St.pQ]
theorem Ok.pQ{E0 E:Env}{w0 w:World}{N nb:Nat}{σ:St}{a:Act}(h:Ok E0 w0 N nb E σ a w)(b:Nat):∃E',Ok E0 w0 N nb E' (σ.pQ b) a w:=by
 obtain⟨E',h1,h2⟩:=AGx h.rel b;refine⟨E',⟨h1,h.base.trans (h2.base w),by rw[yW.2];exact h.tm,by rw[yW.1];exact h.qF,fun i hi hd=> ?_⟩⟩;rw[h2.Hz,h2.Hy];exact h.ids i hi fun e=>hd (ABH e)
theorem Ok.G7{E0:Env}{w0 w:World}{N nb:Nat}{a:Act}:∀(l:List AP) (xs:List AV) {E:Env} {σ:St},Ok E0 w0 N nb E σ a w→ ∃E',Ok E0 w0 N nb E' (G7 l xs σ) a w:=by
 intro l xs E σ h
 induction l generalizing xs E σ with
 |nil=>grind[Fw.G7]
 |cons p l ih=>
  unfold Fw.G7;split
  ·rename_i heq
   cases heq;obtain⟨E',h'⟩:=h.pQ _;exact ih _ h'
  ·rename_i heq
   cases heq;exact ih _ h
  grind
theorem Ok.AV8{E0:Env}{w0 w:World}{N nb:Nat}{a:Act}{bs:List BP}:∀(l:List (Nat×XP)) {E:Env} {σ:St},Ok E0 w0 N nb E σ a w→ ∃E',Ok E0 w0 N nb E' (Pw bs l σ) a w:=by
 intro l
 induction l with
 |nil=>intro E σ h;exact⟨E,h⟩
 |cons q l ih=>
  intro E σ h;unfold Pw;split
  ·simp_all
  ·rename_i e
   cases e;split
   ·obtain⟨E',h'⟩:=h.G7 [_] [_]
    exact ih h'
   grind
  ·rename_i e
   cases e;split
   ·split
    ·obtain⟨E',h'⟩:=h.G7 _ _
     exact ih h'
    grind
   grind
  grind
theorem sL{E:Env}{w:World}{vw:List Bx}{x:AV}{v:Value}(h:VR E w vw x v)(hx:x.rK=true):isSlice v=true:=by
 cases x with
 |ref b p=>exact h.1
 |win b p o n=>exact h.1
 |sl s r y=>
  simp only[VR,Rd]at h;obtain⟨a,cap,h,_⟩:=h;simp only[APx,AQc]at h;rw[h];rfl
 |nil=>cases h;rfl
 |_=>cases hx
theorem wT{E:Env}{σ:St}{a:Act}{w:World}(h:Rel E σ a w)(b j:Nat):Rel E (σ.forget b j) a w∧σ.bx.length≤(σ.forget b j).bx.length∧(∀i:Nat,σ.bx[i]? =some Bx.dead→(σ.forget b j).bx[i]? =some Bx.dead)∧(σ.forget b j).tm=σ.tm:=by
 unfold St.forget;split
 case h_2=>simp_all
 rename_i cs hb;split
 case h_2=>simp_all
 rename_i x hx;split
 case isFalse=>simp_all
 rename_i hs;have hbl:=(ALO.1 hb).1;have hk:Sz E w σ.bx E w (σ.bx.set b (.mem (cs.set j (.ref σ.bx.length [])))++[.dead]):=by
  refine⟨by simp,fun _ _=>rfl,fun _ h=>h,fun _ h=>h,h.bx.st,fun _ _=>rfl,fun c d r rows hc e=> ?_⟩;grind
 refine⟨⟨h.Ns,h.tm.imp fun _ _ hx=>O_ hk hx,?_⟩,by simp,fun i hi=> ?_,rfl⟩
 ·obtain⟨Fs,⟨hl,h1⟩,h2⟩:=h.bx
  refine⟨Fs++[[]],⟨by simp[hl],fun k B G hB hG=> ?_⟩,by simp_all⟩;by_cases hk2:k<σ.bx.length
  ·rw[AOh (by simp_all)]at hB
   rw[AOh (by omega)]at hG;by_cases hkb:b=k
   ·subst hkb
    rw[AQl hk2]at hB;cases hB;obtain⟨rfl,arr,ty,fr,a1,a2,a3⟩:=h1 b _ G hb hG;refine⟨rfl,arr,ty,fr,a1,a2,?_⟩;have a4:i7 E w (σ.bx.set b (.mem (cs.set j (.ref σ.bx.length [])))++[.dead]) cs arr.toList:=a3.imp fun _ _ hv=>GD hk hv
    obtain⟨v,hv,hvr⟩:=a3.get hx;have UZ:arr.toList.set j v=arr.toList:=by
     apply ARn;grind
    rw[←UZ];refine CR.set a4 ⟨sL hvr hs,?_⟩;simp_all
   ·rw[AQQ hkb]at hB
    have h3:=h1 k B G hB hG;cases B with
    |mem dR=>
     obtain⟨rfl,arr,ty,fr,a1,a2,a3⟩:=h3;exact⟨rfl,arr,ty,fr,a1,a2,a3.imp fun _ _ hv=>GD hk hv⟩
    |sl d0 r0 Rx=>exact h3
    |dead=>exact h3
  ·have hlen:=(ALO.1 hB).1
   simp only[AOc,AQk,AN2,APp]at hlen;have hkk:k=σ.bx.length:=by omega
   subst hkk;rw[APH (by simp)]at hB;rw[APH (by omega)]at hG;simp[hl]at hB hG;subst hB hG;rfl
 grind
theorem Ok.forget{E0 E:Env}{w0 w:World}{N nb:Nat}{σ:St}{a:Act}(h:Ok E0 w0 N nb E σ a w)(b j:Nat):Ok E0 w0 N nb E (σ.forget b j) a w:=by
 obtain⟨h1,h2,h3,h4⟩:=wT h.rel b j;exact⟨h1,h.base,by rw[h4];exact h.tm,AQL h.qF h2,fun i hi hd=>h.ids i hi fun e=>hd (h3 i e)⟩
theorem Ok.Wu{E0 E:Env}{w0 w:World}{N nb:Nat}{a:Act}{bs:List BP}{b:Nat}:∀(l:List AP) (j:Nat) {σ:St},Ok E0 w0 N nb E σ a w→Ok E0 w0 N nb E (Wu bs b j l σ) a w
 |[],_,_,h=>h
 |p::l,j,σ,h=>by
  simp only[Fw.Wu];refine Ok.Wu l (j+1) ?_
  split
  ·split
   ·exact h.forget _ _
   omega
  omega
theorem Ok.ATf{E0 E:Env}{w0 w:World}{N nb:Nat}{a:Act}{bs:List BP}:∀(l:List (Nat×XP)) {σ:St},Ok E0 w0 N nb E σ a w→Ok E0 w0 N nb E (cg bs l σ) a w
 |[],_,h=>h
 |(i,p)::l,σ,h=>by
  simp only[cg];refine Ok.ATf l ?_
  split
  ·split
   ·exact h.Wu _ _
   omega
  omega
theorem Ok.ae{E0:Env}{w0 w:World}{N nb:Nat}{a:Act}:∀(l:List (AP ⊕ List AP)) (xs:List (AV ⊕ List AV)) {E:Env} {σ:St},Ok E0 w0 N nb E σ a w→ ∃E',Ok E0 w0 N nb E' (ae l xs σ) a w:=by
 intro l xs E σ h
 induction l generalizing xs E σ with
 |nil=>unfold Fw.ae;exact⟨E,h⟩
 |cons p l ih=>
  unfold Fw.ae;split
  ·rename_i heq
   cases heq;obtain⟨E',h'⟩:=h.G7 _ _;exact ih _ h'
  ·rename_i heq
   cases heq;obtain⟨E',h'⟩:=h.G7 _ _;exact ih _ h'
  ·rename_i heq
   cases heq;exact ih _ h
  ·exact⟨E,h⟩
theorem Ok.je{E0 E:Env}{w0 w:World}{N nb:Nat}{σ:St}{a:Act}(h:Ok E0 w0 N nb E σ a w)(l:List (Nat×XP))(x:XV):∃E',Ok E0 w0 N nb E' (je l x σ) a w:=by
 unfold Fw.je;split
 ·unfold AUU
  split
  ·exact h.G7 _ _
  ·exact h.G7 _ _
  ·exact h.ae _ _
  ·exact⟨E,h⟩
 ·exact⟨E,h⟩
include hT in
theorem rJ{E0 E:Env}{w0 w:World}{N:Nat}{σ:St}{a:Act}{u:c.outs.V}(h:Ok E0 w0 N c.ins.Gr.length E σ a w)(e:qd C.T c fn.results.toList σ=some u):
  a.defers=[]∧ ∃v,(results fn a.tmps).run P w= .ok v w∧AOR c E0 w0 u (.returned v) w:=by
 unfold qd at e;simp only[ALe,ALN]at e;obtain⟨x0,_,x,e1,⟨u',m⟩,e2,rfl⟩:=e;obtain⟨E,h⟩:=h.je c.outs.Dr x0;revert h e1 e2
 generalize Fw.je c.outs.Dr x0 σ=σ
 intro e1 e2 h;obtain⟨v,h1,h2⟩:=qK hT h.rel e1;obtain⟨E,h,vT,h4⟩:=h.opens c.outs
 replace h2:=h4 _ _ h2
 obtain⟨hext,E1,hf⟩:=kE (tm:=[x]) (vals:=[v]) h.rel.bx ⟨h2,trivial⟩ vT gJ oE e2;obtain⟨E2,q1,q2,q3,q4,q5⟩:=hf.shared h.rel.bx;refine⟨h.rel.Ns,v,h1,v,E2,rfl,h.base.trans q3,q4,q5,fun i hi zm=> ?_⟩;obtain⟨p,hp,hg⟩:∃p,c.outs.Gr[i]? =some p∧p≠ .gone:=by
  unfold alive at zm;cases hh:c.outs.Gr[i]? with
  |none=>rw[hh]at zm;cases zm
  |some p=>
   refine⟨p,rfl,fun hp=> ?_⟩;rw[hh,hp]at zm;cases zm
 have hm1:=hext.2 i i (by have:=fi (i:=0) (n:=c.ins.Gr.length) hp hg (by omega);simpa using this);obtain⟨b,B,g1,g2,g3,_⟩:=tP e2 i p hp hg;rw[hm1]at g1;cases g1;have hid:=hf.ids i i hm1;have ACX:=h.ids i hi (fun hd=>by rw[g2]at hd;cases hd;exact g3 rfl);rw[q1,q2];exact⟨hid.1.trans ACX.1,hid.2.trans ACX.2⟩
include hT hΓ hm in
theorem ACU{code:Code}(hb:fn.body=some code)(hl:(labels code).Nodup){J:Nat→Nat→St→Option c.outs.V}(hJ:yU C c fn code J)
  {E0:Env} {w0:World} {u:c.outs.V} {Q:kP} (hp:dq Q)
  (hg:Good E0 w0 fn.ntmps c.ins.Gr.length u (fun _=>qd C.T c fn.results.toList) (fun _ _ _=>none) (fun _=>qd C.T c fn.results.toList) Q):
  ∀n,JOk P E0 w0 fn.ntmps c.ins.Gr.length u (J n) code Q:=by
 intro n
 induction n with
 |zero=>
  intro ℓ body Q' RQ E σ a w h e;obtain⟨s,F,j1,j2,j3⟩:=hJ ℓ RQ.label;rw[j1]at e;simp only[jump]at e;split at e
  ·rw[ALe]at e
   obtain⟨q,_,e⟩:=e;rw[j2]at e;cases e
  ·cases e
 |succ n ih=>
  intro ℓ body Q' RQ E σ a w h e;obtain⟨s,F,j1,j2,j3⟩:=hJ ℓ RQ.label;rw[j1]at e;simp only[jump]at e;split at e
  case isFalse=>cases e
  rename_i qF;rw[ALe]at e;obtain⟨⟨v,m⟩,e1,e2⟩:=e;dsimp only at e2;obtain⟨E,h⟩:=h.AV8 (bs:=s.Gr) s.Dr
  replace h:=h.ATf (bs:=s.Gr) s.Dr
  revert h e1
  generalize cg s.Gr s.Dr (Pw s.Gr s.Dr σ)=σ
  intro e1 h;obtain⟨E,h,vT,h4⟩:=h.opens s;obtain⟨hext,E1,hf⟩:=kE h.rel.bx h.rel.tm vT gJ oE e1;obtain⟨E2,q1,q2,q3,q4,q5⟩:=hf.shared h.rel.bx;have PQ:fn.ntmps=a.tmps.toList.length:=by rw[←CR.len h.rel.tm,h.tm]
  have FX:Ok E0 w0 fn.ntmps c.ins.Gr.length E2 (s.st fn.ntmps v) a w:=by
   refine⟨⟨h.rel.Ns,iI q5 (CR.undef PQ),q4⟩,h.base.trans q3,?_,?_,fun i hi hd=> ?_⟩
   ·have:=CR.len (iI q5 (CR.undef PQ))
    simp only[A5.st];rw[this,←PQ]
   ·simp only[A5.st]
    rw[T1];exact qF
   ·simp only[A5.st]at hd
    have hp':s.Gr[i]? =some (s.Gr[i]'(by omega)):=ALD _;have hng:s.Gr[i]'(by omega)≠ .gone:=fun vN=>by
     obtain⟨z,z1,_⟩:=bO id (u:=v.2) hp';apply hd;rw[z1]
     generalize s.Gr[i]'(by omega)=pp at z vN
     subst vN;rfl
    have hm1:=hext.2 i i (by have:=fi (i:=0) (n:=c.ins.Gr.length) hp' hng (by omega);simpa using this);obtain⟨b,B,g1,g2,g3,_⟩:=tP e1 i _ hp' hng;rw[hm1]at g1;cases g1;have hid:=hf.ids i i hm1;have ACX:=h.ids i hi (fun hd=>by rw[g2]at hd;cases hd;exact g3 rfl);rw[q1,q2];exact⟨hid.1.trans ACX.1,hid.2.trans ACX.2⟩
  have ADO:=j3 n v u e2;obtain⟨kn',kx',kr',hfind,lj,hnp,hj⟩:=AIA hT hΓ hm hl hp hg ih RQ;simp only[HV,hb,hfind]at ADO;refine Ol.AGl (xk hT hΓ hm (hnp.then _) (kn:=fun _ σ=>J n ℓ σ) ⟨fun E σ a w h e=> ?_,fun id E σ a w h e=>lj.x id E σ a w h e,lj.r⟩ hj FX ADO);exact ih ℓ body Q' RQ E σ a w h (e [])
include hT hΓ hm in
theorem ABm{f:Nat}(hf:AUw P f fn c){J:Nat→Nat→St→Option c.outs.V}(hJ:∀code,fn.body=some code→yU C c fn code J)
  (hg:∀v u,c.g v=some u→ ∃n,∀ω,Cr C c fn (J n) ω v=some u):Wt P f c:=by
 refine⟨hf.con,hf.call,fun E w v args u IP hB hS hgv=> ?_⟩;obtain⟨n,hn⟩:=hg v u hgv;cases hb:fn.body with
 |none=>
  have:=hn [];simp only[Cr,hb]at this;cases this
 |some code=>
  simp only[Cr,hb]at hn;refine calls_of_wp hf.at_ hb ?_
  have hp:dq (bodyPost P fn (AOR c E w u)):=fun ch a w' hq=>by
   obtain⟨_,x,E',hx,_⟩:=hq;cases hx
  have lj:Good E w fn.ntmps c.ins.Gr.length u (fun _=>qd C.T c fn.results.toList) (fun _ _ _=>none) (fun _=>qd C.T c fn.results.toList) (bodyPost P fn (AOR c E w u)):=
   ⟨fun E' σ a w' h e=>rJ hT h (e []),fun id E' σ a w' h e=>(by cases e []),fun E' σ a w' h e=>rJ hT h (e [])⟩
  have FX:Ok E w fn.ntmps c.ins.Gr.length E (c.ins.st fn.ntmps v) { tmps:=args++Array.replicate (fn.ntmps-args.size) undef,defers:=[] } w:=by
   have htm:CR (XR E w (Jr.mk id c.ins.Gr v.2)) (Gy.mk id c.ins.Dr v.1 (List.replicate fn.ntmps (.c .undef))) (args++Array.replicate (fn.ntmps-args.size) undef).toList:=by
    rw[Array.toList_append];refine iI (fG hS) (CR.undef ?_);have:=hf.tmps;simp;omega
   refine⟨⟨rfl,htm,hB⟩,cl.refl E w,?_,by simp only[A5.st];rw[T1];exact APM _,fun _ _ _=>⟨rfl,rfl⟩⟩;simp only[A5.st];rw[CR.len htm];have:=hf.tmps;simp;omega
  exact xk hT hΓ hm hp lj (ACU hT hΓ hm hb (hf.labels code hb) (hJ code hb) hp lj n) FX hn
end
end Go.Fw
end
section
namespace Go.Fw
def Fo:List Ty→Ty
 |[]=> .unit
 |c::l=> .cons c (Fo l)
def uh(row:TypeId→Option (List Ty×Bool))(cells:TypeId→Nat):Nat→List Field→Option (List Ty)
 |_,[]=>some []
 |o,f::fs=>
  match row f.type with
  |some (l,_)=>if f.offset=o∧cells f.type=l.length then(uh row cells (o+l.length) fs).map (l++ ·)else none
  |none=>none
def jm:List Ty×Bool→Ty
 |(l,true)=>Fo l
 |([c],false)=>c
 |_=> .unit
def rowOf(P:Program):Nat→TypeId→Option (List Ty×Bool)
 |0,_=>none
 |n+1,t=>
  match P.underlying t with
  |some (.int k)=>some ([.int k],false)
  |some .bool=>some ([.bool],false)
  |some .string=>some ([.str],false)
  |some (.slice e)=>
   match rowOf P n e with
   |some q=>if P.cellsOf e=q.1.length∧0<q.1.length then some ([.sl (jm q)],false)else none
   |none=>none
  |some (.struct fs)=>
   match uh (rowOf P n) P.cellsOf 0 fs.toList with
   |some l=>if P.cellsOf t=l.length then some (l,true)else none
   |none=>none
  |_=>none
def Vd:(t:Ty)→t.D→Prop
 | .int k,x=>(Lit.int k x).wf=true
 | .bool,_=>True
 | .str,x=>List.length x≤maxLen
 | .sl r,x=>List.length x≤maxLen∧ ∀y∈x,Vd r y
 | .unit,_=>True
 | .cons c r,x=>Vd c x.1∧Vd r x.2
theorem iB{α:Type}{p:Nat→α→Prop}:∀{n:Nat},(∀i,i<n→ ∃y,p i y)→ ∃x:List α,x.length=n∧ ∀(i:Nat) y,x[i]? =some y→p i y
 |0,_=>⟨[],rfl,fun i y h=>by simp at h⟩
 |n+1,h=>by
  obtain⟨x,h1,h2⟩:=iB (n:=n) (p:=p) (fun i hi=>h i (by omega));obtain⟨y,hy⟩:=h n (by omega);refine⟨x++[y],by simp[h1],fun i z hz=> ?_⟩;grind
theorem rH{w:World}{B:Nat→Prop}:∀{l m:List Ty} {cs ds:List Value} {x:(Fo l).D} {y:(Fo m).D},Rd w B (Fo l) cs x→Rd w B (Fo m) ds y→Vd (Fo l) x→Vd (Fo m) y→
  ∃z:(Fo (l++m)).D,Rd w B (Fo (l++m)) (cs++ds) z∧Vd (Fo (l++m)) z
 |[],m,cs,ds,x,y,h,k,hx,hy=>by
  simp only[Fo,Rd]at h;subst h;exact⟨y,k,hy⟩
 |c::l,m,cs,ds,x,y,h,k,hx,hy=>by
  simp only[Fo,Rd]at h;obtain⟨v,r,rfl,h1,h2⟩:=h;obtain⟨z,z1,z2⟩:=rH h2 k hx.2 hy;exact⟨(x.1,z),by simp only[AQq,Fo,Rd];exact⟨v,r++ds,rfl,h1,z1⟩,hx.1,z2⟩
theorem AAI{P:Program}{n:Nat}{t:TypeId}{l:List Ty}(h:rowOf P n t=some (l,false)):∃c,l=[c]:=by
 cases n with
 |zero=>simp[rowOf]at h
 |succ n=>
  simp only[rowOf]at h;grind
theorem sI{w:World}{B:Nat→Prop}{P:Program}{n:Nat}{t:TypeId}{q:List Ty×Bool}(h:rowOf P n t=some q){cs:List Value}{x:(Fo q.1).D}(hx:Rd w B (Fo q.1) cs x)(hv:Vd (Fo q.1) x):
  (jm q).n=q.1.length∧ ∃y:(jm q).D,Rd w B (jm q) cs y∧Vd (jm q) y:=by
 obtain⟨l,b⟩:=q;cases b with
 |true=>
  refine⟨?_,x,hx,hv⟩;clear h hx hv x;simp only[jm]
  induction l with
  |nil=>rfl
  |cons c l ih=>simp[Fo,Ty.n,ih]
 |false=>
  obtain⟨c,rfl⟩:=AAI h;simp only[Fo,Rd]at hx;obtain⟨v,r,rfl,h1,h2⟩:=hx;subst h2;refine⟨?_,x.1,h1,hv.1⟩;have:=kb h1;grind[jm]
theorem AAr(a:Addr):a.add 0=a:=by rfl
theorem zZ{w:World}{a:Addr}{v:Value}(h:w.cell? a=some v):a.spot=none:=by
 unfold World.cell? at h;split at h
 all_goals simp_all
section
variable{H:Type} {enc:TypeId×Value→H} {P:Program} {w:World} {spare:Nat→Bool} {held:Bool}
theorem iq:∀(n:Nat) {t:TypeId} {q:List Ty×Bool},rowOf P n t=some q→ ∀{fuel:Nat} {cs:List Value} {x:DataW H×List MemPlace},DataW.trod enc P w 0 spare held fuel t cs=some x→
  ∃y:(Fo q.1).D,Rd w (fun b=>b<w.heap.size) (Fo q.1) cs y∧Vd (Fo q.1) y
 |0,t,q,h,_,_,_,_=>by simp[rowOf]at h
 |n+1,t,q,h,fuel,cs,x,hx=>by
  simp only[rowOf]at h;split at h
  ·rename_i k hu
   cases h;obtain⟨m,rfl,_,hw⟩:=DataW.trod_int hu hx;exact⟨(m,()),by simp[Fo,Rd],hw,trivial⟩
  ·rename_i hu
   cases h;obtain⟨b,rfl,_⟩:=DataW.trod_bool hu hx;exact⟨(b,()),by simp[Fo,Rd],trivial,trivial⟩
  ·rename_i hu
   cases h;obtain⟨s,rfl,_,hs⟩:=DataW.trod_string hu hx;refine⟨(s.data.toList,()),by simp[Fo,Rd],?_,trivial⟩
   show s.data.toList.length≤maxLen
   simp_all
  ·rename_i e hu
   split at h
   case h_2=>cases h
   rename_i q' hq';split at h
   case isFalse=>cases h
   rename_i AB3;cases h;rcases DataW.trod_slice hu hx with⟨rfl,_⟩|⟨a,len,cap,elems,rest,m,_,rfl,_,_,hlc,hcm,Uj,RQ,_,_⟩
   ·refine⟨([],()),?_,⟨by simp,by simp⟩,trivial⟩
    simp only[Fo,Rd];simp_all
   ·have each:∀i,i<len→ ∃y:(jm q').D,Vd (jm q') y∧ ∃ds,ds.length=(jm q').n∧(∀j,j<ds.length→w.cell? ((a.add (i*P.cellsOf e)).add j)=ds[j]?)∧Rd w (fun b=>b<w.heap.size) (jm q') ds y:=by
     intro i hi;have hz:elems[i]? =some (elems[i]'(by omega)):=ALD _;have h1:=RQ i hi;rw[hz,ALe]at h1;obtain⟨ds,hds,htr⟩:=h1;obtain⟨z,z1,z2⟩:=iq n hq' htr;obtain⟨_,c1,c2⟩:=World.cells?_some hds
     grind[sI]
    obtain⟨xs,x1,x2⟩:=iB each;refine⟨(xs,()),?_,⟨by grind,fun y hy=> ?_⟩,trivial⟩
    ·simp only[Fo,Rd]
     refine⟨_,[],rfl,⟨_,cap,by rw[x1],by omega,?_⟩,rfl⟩;by_cases h0:len=0
     ·omega
     right
     obtain⟨y0,_,ds0,d0,d1,_⟩:=each 0 (by omega);have hn0:0<(jm q').n:=by
      rw[d0.symm];have hz:elems[0]? =some (elems[0]'(by omega)):=ALD _;have h1:=RQ 0 (by omega);rw[hz,ALe]at h1;obtain⟨ds,hds,htr⟩:=h1;obtain⟨z,z1,z2⟩:=iq n hq' htr;grind[sI]
     have hc0:=d1 0 (by omega);simp only[Nat.zero_mul,AAr]at hc0;have uV:w.cell? a=some (ds0[0]'(by omega)):=by simp_all
     have hsp:=zZ uV;obtain⟨b,o,s⟩:=a;simp only at hsp;subst hsp;refine⟨b,o,rfl,?_,fun i y hy=> ?_⟩
     ·grind[World.cell?,Array.getElem?_eq_some_iff]
     ·have hil:=(ALO.1 hy).1
      obtain⟨_,ds,e0,e1,e2⟩:=x2 i y hy;have hcn:P.cellsOf e=(jm q').n:=by
       have hz:elems[i]? =some (elems[i]'(by omega)):=ALD _;have h1:=RQ i (by omega);rw[hz,ALe]at h1;obtain⟨ds,hds,htr⟩:=h1;obtain⟨z,z1,z2⟩:=iq n hq' htr;grind[sI]
      refine⟨ds,e0,fun j v hj=> ?_,e2⟩;grind[List.getElem?_eq_some_iff,Addr.add_eq]
    ·obtain⟨i,hi,rfl⟩:=AQS hy
     exact(x2 i _ (ALD hi)).1
  ·rename_i fs hu
   split at h
   case h_2=>cases h
   rename_i l hl;split at h
   case isFalse=>cases h
   rename_i YF;cases h;obtain⟨xs,m,_,_,hlen,hxs,RQ⟩:=DataW.trod_struct hu hx;have key:∀(fs:List Field) (o:Nat) (l:List Ty) (i0:Nat),uh (rowOf P n) P.cellsOf o fs=some l→cs.length=o+l.length→(∀(i:Nat) (f:Field),fs[i]? =some f→ ∃z,DataW.trod enc P w 0 spare held m f.type ((cs.drop f.offset).take (P.cellsOf f.type))=some z)→
     ∃y:(Fo l).D,Rd w (fun b=>b<w.heap.size) (Fo l) (cs.drop o) y∧Vd (Fo l) y:=by
    intro fs
    induction fs with
    |nil=>
     intro o l i0 hl hc _;simp only[uh,ALL]at hl;subst hl;refine⟨(),?_,trivial⟩;simp only[Fo,Rd];simp_all
    |cons f fs ih=>
     intro o l i0 hl hc RQ;simp only[uh]at hl;split at hl
     case h_2=>cases hl
     rename_i l1 b1 hr;split at hl
     case isFalse=>cases hl
     rename_i hof;simp only[ALN]at hl;obtain⟨l2,tu,rfl⟩:=hl;obtain⟨z,hz⟩:=RQ 0 f rfl;obtain⟨y1,a1,a2⟩:=iq n hr hz;obtain⟨y2,b1,b2⟩:=ih (o+l1.length) l2 0 tu (by grind) (fun i f hf=>RQ (i+1) f (by simp_all));grind[rH,List.drop_drop,List.take_append_drop]
   have:=key fs.toList 0 l 0 hl (by omega) (fun i f hf=>by
    grind)
   simp_all
  simp_all
end
end Go.Fw
end
section
open Go.RowKit
namespace Go.Fw
def tW(W:World):Env:={ Hz:=fun _=>0,Hy:=fun _=> .nilFunc,T:=fun b=>b<W.heap.size,S:=fun b=>b<W.heap.size }
abbrev nH:A5:=⟨[(0,.c (.v .bool))],[]⟩
theorem za{P:Program}{f:Nat}{Dr:List (Nat×XP)}{g:A5.V ⟨Dr,[]⟩→Option nH.V}(hs:Wt P f ⟨⟨Dr,[]⟩,nH,g⟩){W:World}{args:Array Value}(x:Gy.V Dr)(hlen:args.size=Dr.length)
  (hx:OG (tW W) W [] id Dr x args.toList) (hg:g (x,())=some ((true,()),())):Calls P f args W fun e W' =>e= .returned (.bool true)∧Below W.heap.size W W':=by
 obtain⟨_,_,h⟩:=hs;refine(h (tW W) W (x,()) args _ hlen ⟨[],⟨rfl,fun k B F h=>by simp_all⟩,by simp,by simp,by simp,fun _ h=>h,fun _ h=>h⟩ hx hg).mono fun e W' hR=> ?_
 obtain⟨v,E',rfl,base,_,⟨⟨v',hv,hxr⟩,_⟩,_⟩:=hR;simp at hv;subst hv;have:v= .bool true:=by
  have h2:VR E' W' [] (.v .bool true) v:=hxr;exact SC h2
 subst this;exact⟨rfl,base.os,base.tape,base.output,base.size,fun k hk=>base.heap k hk⟩
theorem AJ0{W:World}{vw:List Bx}{s:Bool}{r:Ty}{v:Value}{y:List r.D}(h:Rd W (fun b=>b<W.heap.size) (.sl r) [v] y):XR (tW W) W vw (XP.mk id (.c (.sl s r)) y) v:=by
 show Rd W (if s then _ else _) (.sl r) [v] y
 cases s<;>exact h
end Go.Fw
end
section
namespace Go.Fw
def Pf:List (Nat×Pj)→Nat→Option Pj
 |[],_=>none
 |(f,c)::l,g=>if f=g then some c else Pf l g
def AG4(P:Program):List (Nat×Pj)→Prop
 |[]=>True
 |q::l=>Wt P q.1 q.2∧AG4 P l
theorem pT{P:Program}:∀{l:List (Nat×Pj)},AG4 P l→gl P (Pf l)
 |[],_=>fun f c e=>by cases e
 |(g,d)::l,h=>fun f c e=>by
  simp only[Pf]at e;split at e
  ·rename_i hg
   cases e;subst hg;exact h.1
  ·exact pT h.2 f c e
theorem W_{P:Program}{f:Nat}{fn:Func}(hf:P.funcs[f]? =some fn)(hn:(fn.name== "runtime.NumGoroutine")=false)(hb:fn.body.isNone=false)(args:Array Value)(w:World):
  (callFunc f args).run P w= .ok (.enter f args) w:=by
 have h1:fn.name≠ "runtime.NumGoroutine" :=by simp_all
 have h2:fn.body≠none:=by
  grind
 simp[callFunc,hf,h1,h2]
def iP(fn:Func)(c:Pj):Bool:=
 !(
  fn.name== "runtime.NumGoroutine")&& !fn.body.isNone&&c.ok&&decide (c.ins.Dr.length≤fn.ntmps)&&(match fn.body with
  |some code=>decide (labels code).Nodup
  |none=>true)
theorem AWI{P:Program}{f:Nat}{fn:Func}{c:Pj}(hf:P.funcs[f]? =some fn)(h:iP fn c=true):AUw P f fn c:=by
 simp only[iP,ALo,AQo,ANR]at h;obtain⟨⟨⟨⟨h1,h2⟩,h3⟩,h4⟩,h5⟩:=h;refine⟨hf,W_ hf h1 h2,h3,h4,fun code hc=> ?_⟩;simp_all
def gQ(C:Zg)(c:Pj)(fn:Func)(J:Nat→Nat→St→Option c.outs.V):List Nat→Prop
 |[]=>True
 | ℓ ::l=>(∃(s:A5) (F:Nat→s.V→Option c.outs.V),(∀n,J n ℓ =jump c.ins.Gr.length s (F n))∧(∀v,F 0 v=none)∧
  ∀n v,∀ω,HV C c fn (J n) ℓ ω (s.st fn.ntmps v)=F (n+1) v)∧gQ C c fn J l
theorem gQ.ok{C:Zg}{c:Pj}{fn:Func}{J:Nat→Nat→St→Option c.outs.V}:∀{l:AAs},gQ C c fn J l→ ∀ ℓ ∈l,∃(s:A5) (F:Nat→s.V→Option c.outs.V),(∀n,J n ℓ =jump c.ins.Gr.length s (F n))∧(∀v,F 0 v=none)∧
  ∀n v y,F (n+1) v=some y→ ∀ω,HV C c fn (J n) ℓ ω (s.st fn.ntmps v)=some y
 |[],_,ℓ,h=>by cases h
 |k::l,hl,ℓ,h=>by
  rcases APr.1 h with rfl|h
  ·obtain⟨⟨s,F,h1,h2,h3⟩,_⟩:=hl
   exact⟨s,F,h1,h2,fun n v y e ω=>(h3 n v ω).trans e⟩
  ·exact gQ.ok hl.2 ℓ h
def iN(fn:Func):AAs:=
 match fn.body with
 |some code=>labels code
 |none=>[]
def Bz:List AFm→Nat→List Nat
 |[],_=>[]
 |(r,h)::l,q=>if r=q then h else Bz l q
theorem AC3{P:Program}{T:Jm}{l:List (Nat×Pj)}{hint:Nat→List Nat}{f:Nat}{fn:Func}{c:Pj}(hT:En P T)(hm:P.follows .mixedOrders=true)(hf:P.funcs[f]? =some fn)(hl:AG4 P l)(hc:iP fn c=true)
  {J:Nat→Nat→St→Option c.outs.V} {L:AAs} (hL:iN fn=L) (hJ:gQ ⟨T,Pf l,hint⟩ c fn J L) (n:Nat) (he:∀ω v,Cr ⟨T,Pf l,hint⟩ c fn (J n) ω v=c.g v):Wt P f c:=
 ABm (C:=⟨T,Pf l,hint⟩) hT (pT hl) hm (AWI hf hc) (J:=J) (fun code hb ℓ hℓ =>gQ.ok hJ ℓ (by
  grind[iN])) fun v u hg=>⟨n,fun ω=>(he ω v).trans hg⟩
end Go.Fw
end
section
namespace Go.M
abbrev DA:Nat:=Go.Fw.DA
def AS(x:Int):Int:=IntKind.wrap .i64 x
def cQ(κ:IntKind)(a b:Int):Int:=κ.wrap (BitVec.ofInt κ.bits a &&& BitVec.ofInt κ.bits b).toNat
def bOr(κ:IntKind)(a b:Int):Int:=κ.wrap (BitVec.ofInt κ.bits a ||| BitVec.ofInt κ.bits b).toNat
def AQB(κ:IntKind)(a b:Int):Int:=κ.wrap (BitVec.ofInt κ.bits a ^^^ BitVec.ofInt κ.bits b).toNat
theorem oJ:∃n:Nat,2^64≤n:=⟨_,APM _⟩
noncomputable def AY:Nat:=Classical.choose oJ
theorem eO:2^64≤AY:=Classical.choose_spec oJ
def v7{α:Type}(p:Int)(v l:List α):Option (List α):=if 0≤p∧p≤(l.length:Int)∧l.length+v.length≤DA then some (l.take p.toNat++v++l.drop p.toNat)else none
def ABK{α:Type}(p q:Int)(l:List α):Option (List α):=if 0≤p∧p≤q∧q≤(l.length:Int)then some (l.take p.toNat++l.drop q.toNat)else none
end Go.M
end
section
namespace Go.Fw
structure SP (P:Program) where
 f:Nat
 c:Pj
 h:Wt P f c
def SP.l{P:Program}:List (SP P)→List (Nat×Pj)
 |[]=>[]
 |s::l=>(s.f,s.c)::SP.l l
theorem yS{P:Program}:∀l:List (SP P),AG4 P (SP.l l)
 |[]=>trivial
 |s::l=>⟨s.h,yS l⟩
@[reducible] def AP.Cu (R:Type):AP→Type
 | .qG _ rs=>Zb rs→R
 | .v t=>t.D→R
 | .sl _ r=>List r.D→R
 | .mV r=>r.D→R
 | .kj _ _=>Nat×Nat→R
 |_=>R
def AP.un{R:Type}:(p:AP)→p.Cu R→p.V→R
 | .qG _ _,f,x=>f x
 | .v _,f,x=>f x
 | .sl _ _,f,x=>f x
 | .mV _,f,x=>f x
 | .kj _ _,f,x=>f x
 | .nil,f,_=>f
 | .ref _,f,_=>f
 | .ptr _ _,f,_=>f
 | .fn _ _,f,_=>f
 | .any,f,_=>f
@[reducible] def Xt.Cu (R:Type):List AP→Type
 |[]=>R
 |p::l=>p.Cu (Xt.Cu R l)
def Xt.un{R:Type}:(l:List AP)→Xt.Cu R l→Xt.V l→R
 |[],f,_=>f
 |p::l,f,x=>Xt.un l (p.un f x.1) x.2
@[reducible] def YS.Cu (R:Type):List (AP ⊕ List AP)→Type
 |[]=>R
 | .inl p::l=>p.Cu (YS.Cu R l)
 | .inr q::l=>Xt.Cu (YS.Cu R l) q
def YS.un{R:Type}:(l:List (AP ⊕ List AP))→YS.Cu R l→YS.V l→R
 |[],f,_=>f
 | .inl p::l,f,x=>YS.un l (p.un f x.1) x.2
 | .inr q::l,f,x=>YS.un l (Xt.un q f x.1) x.2
@[reducible] def XP.Cu (R:Type):XP→Type
 | .c p=>p.Cu R
 | .agg l=>Xt.Cu R l
 | .row r=>r.D→R
 | .NA l=>YS.Cu R l
def XP.un{R:Type}:(p:XP)→p.Cu R→p.V→R
 | .c p,f,x=>p.un f x
 | .agg l,f,x=>Xt.un l f x
 | .row _,f,x=>f x
 | .NA l,f,x=>YS.un l f x
@[reducible] def BP.Cu (R:Type):BP→Type
 | .mem l=>Xt.Cu R l
 | .sl _ r=>List r.D→R
 | .gone=>R
def BP.un{R:Type}:(p:BP)→p.Cu R→p.V→R
 | .mem l,f,x=>Xt.un l f x
 | .sl _ _,f,x=>f x
 | .gone,f,_=>f
@[reducible] def Gy.Cu (R:Type):List (Nat×XP)→Type
 |[]=>R
 |(_,p)::l=>p.Cu (Gy.Cu R l)
def Gy.un{R:Type}:(l:List (Nat×XP))→Gy.Cu R l→Gy.V l→R
 |[],f,_=>f
 |(_,p)::l,f,x=>Gy.un l (p.un f x.1) x.2
@[reducible] def Jr.Cu (R:Type):List BP→Type
 |[]=>R
 |p::l=>p.Cu (Jr.Cu R l)
def Jr.un{R:Type}:(l:List BP)→Jr.Cu R l→Jr.V l→R
 |[],f,_=>f
 |p::l,f,x=>Jr.un l (p.un f x.1) x.2
@[reducible] def A5.Cu (s:A5) (R:Type):Type:=Gy.Cu (Jr.Cu R s.Gr) s.Dr
def A5.un{R:Type}(s:A5)(f:s.Cu R)(v:s.V):R:=Jr.un s.Gr (Gy.un s.Dr f v.1) v.2
structure Lp (o:A5) where
 ℓ :Nat
 s:A5
 F:Nat→s.Cu (Option o.V)
def K5{o:A5}(nb:Nat):List (Lp o)→Nat→Nat→St→Option o.V
 |[],_,_,_=>none
 |p::l,n,ℓ,σ=>if ℓ =p.ℓ then jump nb p.s (p.s.un (p.F n)) σ else K5 nb l n ℓ σ
inductive Xr (C:Zg) (c:Pj) (fn:Func) (J:Nat→Nat→St→Option c.outs.V):List (Lp c.outs)→Prop
 |nil:Xr C c fn J []
 |cons {ℓ :Nat} {s:A5} {F:Nat→s.Cu (Option c.outs.V)} {l:List (Lp c.outs)} (h0:∀v,s.un (F 0) v=none) (h1:∀n v ω,HV C c fn (J n) ℓ ω (s.st fn.ntmps v)=s.un (F (n+1)) v) (h:Xr C c fn J l):Xr C c fn J (⟨ℓ,s,F⟩::l)
def Lp.ls{o:A5}:List (Lp o)→List Nat
 |[]=>[]
 |p::l=>p.ℓ ::Lp.ls l
theorem ADl{o:A5}{nb:Nat}:∀{l:List (Lp o)} (n:Nat) {ℓ :Nat} (p:Lp o) (pre:List (Lp o)),ℓ =p.ℓ →(Lp.ls (pre++p::l)).Nodup→K5 nb (pre++p::l) n ℓ =jump nb p.s (p.s.un (p.F n))
 |l,n,ℓ,p,[],e,_=>by
  funext σ
  simp[K5,e]
 |l,n,ℓ,p,q::pre,e,hn=>by
  funext σ
  have hq: ℓ ≠q.ℓ :=by
   intro h;simp only[AQq,Lp.ls,AS8]at hn;refine hn.1 ?_
   rw[←h,e];clear hn h e
   induction pre with
   |nil=>simp[Lp.ls]
   |cons a m ih=>simp[Lp.ls,ih]
  have:=congrFun (ADl (nb:=nb) (l:=l) n p pre e (by grind[Lp.ls,List.nodup_cons])) σ;simp only[AQq,K5,ALG hq];omega
theorem Xr.ok{C:Zg}{c:Pj}{fn:Func}{nb:Nat}(hb:nb=c.ins.Gr.length){L:List (Lp c.outs)}(hn:(Lp.ls L).Nodup):∀{l pre:List (Lp c.outs)},L=pre++l→Xr C c fn (K5 nb L) l→gQ C c fn (K5 nb L) (Lp.ls l)
 |[],_,_,_=>trivial
 |⟨ℓ,s,F⟩::l,pre,e,.cons h0 h1 h=>by
  refine⟨⟨s,fun n=>s.un (F n),fun n=> ?_,h0,fun n v ω=>h1 n v ω⟩,Xr.ok hb hn (pre:=pre++[⟨ℓ,s,F⟩]) (by simp[e]) h⟩;subst hb;rw[e];exact ADl n ⟨ℓ,s,F⟩ pre rfl (by simp_all)
def mkP{P:Program}{T:Jm}(hT:En P T)(hm:P.follows .mixedOrders=true){f:Nat}{fn:Func}(hf:P.funcs[f]? =some fn)(i o:A5)(g:i.Cu (Option o.V))(l:List (SP P))(h:List AFm)(L:List (Lp o))(n:Nat)
  (hL:iN fn=Lp.ls L) (hd:decide (Lp.ls L).Nodup=true) (hc:iP fn ⟨i,o,i.un g⟩=true)
  (hJ:Xr ⟨T,Pf (SP.l l),Bz h⟩ ⟨i,o,i.un g⟩ fn (K5 i.Gr.length L) L)
  (he:∀ω v,Cr ⟨T,Pf (SP.l l),Bz h⟩ ⟨i,o,i.un g⟩ fn (K5 i.Gr.length L n) ω v=i.un g v):SP P:=
 ⟨f,⟨i,o,i.un g⟩,AC3 (l:=SP.l l) hT hm hf (yS l) hc (J:=K5 i.Gr.length L) (L:=Lp.ls L) hL (Xr.ok rfl (by simp_all) (pre:=[]) rfl hJ) n he⟩
theorem AF{Q:List Bool→Prop}(a:Q [])(b:∀ω,Q (false::ω))(d:∀ω,Q (true::ω)):∀ω,Q ω
 |[]=>a
 |false::ω=>b ω
 |true::ω=>d ω
end Go.Fw
end
section
namespace Go.Fw
open Go.Proofs Go.Shelf Go.RowKit Go.Lib
structure dd (P:Program) (ρ:Ren) (nm:String) (fv:Func):Prop where
 mixed:P.follows .mixedOrders=true
 f22:P.funcs[ρ.f 22]? =some { Body2.n22 ρ with name:=nm }
 n22:(nm== "runtime.NumGoroutine")=false
 f29:P.funcs[ρ.f 29]? =some fv
 n29:(fv.name== "runtime.NumGoroutine")=false
 b29:fv.body.isNone=true
 e29:Extern.findNext fv=none
 x29:Extern.find fv=some (Extern.SlicesOverlaps.overlaps #[(ρ.t 24),(ρ.t 24)] #[(ρ.t 4)])
 t0:P.underlying (ρ.t 0)=some (TypeDesc.tuple #[])
 a0:∀w,(isAgg (ρ.t 0)).run P w= .ok false w
 z0:∀w,(Go.sizeOf (ρ.t 0)).run P w= .ok 1 w
 v0:∀w,(zeroValue (ρ.t 0)).run P w= .ok (Value.tuple #[]) w
 t3:P.underlying (ρ.t 3)=some (TypeDesc.int IntKind.i64)
 a3:∀w,(isAgg (ρ.t 3)).run P w= .ok false w
 z3:∀w,(Go.sizeOf (ρ.t 3)).run P w= .ok 1 w
 v3:∀w,(zeroValue (ρ.t 3)).run P w= .ok (Value.int IntKind.i64 0) w
 t4:P.underlying (ρ.t 4)=some (TypeDesc.bool)
 a4:∀w,(isAgg (ρ.t 4)).run P w= .ok false w
 z4:∀w,(Go.sizeOf (ρ.t 4)).run P w= .ok 1 w
 v4:∀w,(zeroValue (ρ.t 4)).run P w= .ok (Value.bool false) w
 t24:P.underlying (ρ.t 24)=some (TypeDesc.slice (ρ.t 9))
 a24:∀w,(isAgg (ρ.t 24)).run P w= .ok false w
 z24:∀w,(Go.sizeOf (ρ.t 24)).run P w= .ok 1 w
 v24:∀w,(zeroValue (ρ.t 24)).run P w= .ok (Value.slice none 0 0) w
section
variable{P:Program} {ρ:Ren} {nm:String} {fv:Func}
theorem bH{w:World}{dT sT ty elem:TypeId}{i0:TypeInfo}{b o AUa AXc VS ix n:Nat}{a:Option Addr}{cs:List Value}(hu:P.underlying dT=some (.slice elem))(hi:P.info? elem=some i0)(hn:n=Nat.min VS AUa)
  (AND:∀W:World,W=w→(Builtin.firstCells i0.size n (.slice a VS ix)).run P W= .ok cs.toArray W) (oc:w.there b o cs.length) (h1:∀v∈cs,v.oneCell' =true):
  (Builtin.copy_ #[dT,sT] ty #[.slice (some ⟨b,o,none⟩) AUa AXc,.slice a VS ix]).run P w= .ok (goInt n) (w.setCells b o cs):=by
 have qE:=run_storeCells_cells (P:=P) b o cs 0 w (by simpa using fun j hj=>(oc j hj).1) (by simpa using fun j hj=>(oc j hj).2) h1;rw[AQ2]at qE;have:=AND w rfl;simp[Builtin.copy_,run_underlying hu,Builtin.lenOf,sizeOf,typeInfo,hi,←hn,this,qE]
set_option maxHeartbeats 4000000 in
set_option maxRecDepth 100000 in
theorem AC6(L:dd P ρ nm fv){k:Nat}(z9:∀w,(Go.sizeOf (ρ.t 9)).run P w= .ok k w)(ad:Option Addr)(n c i:Nat)(va:Option Addr)(vc:Nat)(w:World)(hi:i≤n)(hnc:n≤c):
  Calls P (ρ.f 22) #[.slice ad n c,.int .i64 i,.slice va 0 vc] w fun e w' =>e= .returned (.slice ad n c)∧w' =w:=by
 have t0:=L.t0;have a0:=L.a0;have z0:=L.z0;have v0:=L.v0;have t3:=L.t3;have a3:=L.a3;have z3:=L.z3;have v3:=L.v3;have t4:=L.t4;have a4:=L.a4;have z4:=L.z4;have v4:=L.v4;have t24:=L.t24;have a24:=L.a24;have z24:=L.z24;have v24:=L.v24;have u0:=run_underlying L.t0;have u3:=run_underlying L.t3;have u4:=run_underlying L.t4;have IZ:=run_underlying L.t24;have mixed:=L.mixed
 go_enter L.f22,Body2.n22_ntmps ρ
 cases ad with
 |none=>
  go_wp2
  go_ret
  exact⟨rfl,rfl⟩
 |some a=>
  obtain⟨ab,ao,asp⟩:=a
  go_wp2
  all_goals (go_ret;exact⟨rfl,rfl⟩)
theorem jq{w:World}(tS tR e:TypeId)(ht:P.underlying tS=some (.slice e))(size:Nat)(hz:∀w,(Go.sizeOf e).run P w= .ok size w)
  (a b:Addr) (la ca lb cb:Nat) (cq:a.block≠b.block) (tA tB:TypeId) (kA kB:Nat)
  (hsa:w.shape? a.block=some (tA,kA)) (hsb:w.shape? b.block=some (tB,kB)) (hkA:kA≠0)
  (hfb:w.frozen? b=false) (hfe:w.frozen? { block:=b.block,off:=kB }=false):
  (Extern.SlicesOverlaps.overlaps #[tS,tS] #[tR] #[.slice (some a) la ca,.slice (some b) lb cb]).run P w= .ok (.bool false) w:=by
 have qF:(a.block !=b.block)=true:=by simp_all
 have AYA:(a.block==b.block)=false:=by simp_all
 change Sem.run P (α:=Value) (do
  let some t:=(#[tS,tS]:Array TypeId)[0]?|stuck "slices.overlaps: no parameter types"
  let .slice elem←underlying t|stuck "slices.overlaps: slice type expected"
  let size←sizeOf elem
  match(some a:Option Addr),(some b:Option Addr)with
  |some a,some b=>
   if la=0∨lb=0∨size=0 then pure (Value.bool false)
   else if a.block !=b.block&&(←frozen a)&&(←frozen b)then unsupported .addressObserved
   else do
    if a.block !=b.block then do
     noView a;noView b
     if←mayBeOne a b then return Value.bool ((←choose (.extern "sameAddr.stringBytes" 2))==1)
    pure (Value.bool (a.block==b.block&&a.off<b.off+lb*size&&b.off<a.off+la*size))
  |_,_=>pure (Value.bool false)) w=_
 by_cases h0:la=0∨lb=0∨size=0
 ·simp[run_underlying ht,hz,h0]
 ·cases kA with
  |zero=>omega
  |succ kA=>
   cases hfa:w.frozen? a<;>cases hfae:w.frozen? { block:=a.block,off:=kA+1 }<;>
    simp[run_underlying ht,hz,h0,qF,AYA,frozen,noView,viewAt,mayBeOne,stringish,shape,Sem.run,hsa,hsb,hfb,hfe,hfa,hfae]
set_option maxHeartbeats 4000000 in
set_option maxRecDepth 100000 in
theorem zX(L:dd P ρ nm fv){i0:TypeInfo}(t_:P.info? (ρ.t 9)=some i0)(hs0:0<i0.size)(b off n c i:Nat)(va:Addr)(m vc:Nat)(cs vs:List Value)(w:World)(hi:i<n)(hm:0<m)(TC:n+m≤c)(Xy:n+m≤DA)(hvb:va.block≠b)
  (YF:cs.length=n*i0.size) (hvl:vs.length=m*i0.size) (uV:BT w b off cs) (oc:w.there b off ((n+m)*i0.size))
  (Vt:∀W:World,W.heap[va.block]? =w.heap[va.block]?→(Builtin.firstCells i0.size m (.slice (some va) m vc)).run P W= .ok vs.toArray W) (h1c:∀v∈cs,v.oneCell' =true) (h1v:∀v∈vs,v.oneCell' =true)
  (tA tB:TypeId) (kA kB:Nat) (hsa:w.shape? va.block=some (tA,kA)) (hsb:w.shape? b=some (tB,kB)) (hkA:kA≠0) (hfe:w.frozen? ⟨b,kB,none⟩=false):
  Calls P (ρ.f 22) #[.slice (some ⟨b,off,none⟩) n c,.int .i64 i,.slice (some va) m vc] w fun e w' =>
   e= .returned (.slice (some ⟨b,off,none⟩) (n+m) c)∧ ∃W:World,W.heap=w.heap∧Grown w W∧w' =(W.setCells b (off+(i+m)*i0.size) (cs.drop (i*i0.size))).setCells b (off+i*i0.size) vs:=by
 have t0:=L.t0;have a0:=L.a0;have z0:=L.z0;have v0:=L.v0;have t3:=L.t3;have a3:=L.a3;have z3:=L.z3;have v3:=L.v3;have t4:=L.t4;have a4:=L.a4;have z4:=L.z4;have v4:=L.v4;have t24:=L.t24;have a24:=L.a24;have z24:=L.z24;have v24:=L.v24;have u0:=run_underlying L.t0;have u3:=run_underlying L.t3;have u4:=run_underlying L.t4;have IZ:=run_underlying L.t24;have z9:∀w,(Go.sizeOf (ρ.t 9)).run P w= .ok i0.size w:=fun w=>by simp[sizeOf,typeInfo,t_]
 have mixed:=L.mixed;have ABM:=Xy;simp only[DA]at ABM;have hz1: ¬((m:Int)=0):=by omega
 have hz2: ¬((i:Int)=(n:Int)):=by omega
 generalize hk:i0.size=k at*
 have hmul:(i+m)*k≤(n+m)*k:=AOr _ (by omega);have ACa:i*k≤n*k:=AOr _ (by omega);have Hw:(i+m)*k<(n+m)*k:=Nat.mul_lt_mul_of_pos_right (by omega) hs0;have hnm:(n+m)*k=n*k+m*k:=AQm ..;have him:(i+m)*k=i*k+m*k:=AQm ..;have hov:∀lb cb,(callFunc (ρ.f 29) #[.slice (some va) m vc,.slice (some ⟨b,off+(i+m)*k,none⟩) lb cb]).run P w= .ok (.value (.bool false)) w:=fun lb cb=>by
  rw[run_callFunc_extern L.f29 L.n29 L.b29 L.e29 L.x29,
   jq (ρ.t 24) (ρ.t 4) (ρ.t 9) L.t24 k z9 va ⟨b,off+(i+m)*k,none⟩ m vc lb cb hvb tA tB kA kB hsa hsb hkA (oc _ Hw).2 hfe]
  rfl
 have hdl:(cs.drop (i*k)).length=(n-i)*k:=by rw[ASJ,YF,AR8]
 have hw1:IntKind.i64.wrap ((i:Int)+(m:Int))=(i:Int)+(m:Int):=by rw[IntKind.wrap_i64];omega
 have hb1:(0:Int)≤(i:Int)+(m:Int):=by omega
 have TQ:i≤n:=by omega
 have htn:((i:Int)+(m:Int)).toNat=i+m:=by omega
 have hb2: ¬(c=i+m):=by omega
 have hb3:(i:Int)≤(n:Int)+(m:Int):=by omega
 have hb4: ¬(c=i):=by omega
 have AUe:∀ty dc sc,(Builtin.copy_ #[(ρ.t 24),(ρ.t 24)] ty #[.slice (some ⟨b,off+(i+m)*k,none⟩) (n+m-(i+m)) dc,.slice (some ⟨b,off+i*k,none⟩) (n+m-i) sc]).run P w.drew= .ok (goInt (n-i:Nat)) (w.drew.setCells b (off+(i+m)*k) (cs.drop (i*k))):=fun ty dc sc=>
  bH (n:=n-i) L.t24 t_ (by simp only[Nat.min_def];split<;>omega) (fun W hW=>by
   subst hW;simp only[Builtin.firstCells,hk];have hl:BT w.drew b (off+i*k) (cs.drop (i*k)):=fun j v hj=>by
    rw[ASk]at hj;have:=uV _ v hj
    rwa [←AQz]at this
   rw[←hdl];exact Ll hl) (fun j hj=>by
    rw[hdl]at hj;have:(i+m)*k+j<(n+m)*k:=by
     rw[hnm,him];have:(n-i)*k=n*k-i*k:=AR8 ..;omega
    have:=oc _ this;rw[←AQz]at this;exact this) (fun v hv=>h1c v (ARi hv))
 obtain⟨W1,hW1⟩:∃W1,W1=w.drew.setCells b (off+(i+m)*k) (cs.drop (i*k)):=⟨_,rfl⟩;have AXF:W1.heap[va.block]? =w.heap[va.block]?:=by rw[hW1];exact DM _ _ _ _ _ hvb
 have ANz:W1.there b (off+i*k) vs.length:=fun j hj=>by
  rw[hvl]at hj;have h0:=oc (i*k+j) (by omega);rw[←AQz]at h0;rw[hW1];refine⟨?_,?_⟩
  ·refine isSome_setCells b _ _ _ (fun t ht=> ?_) _ h0.1
   rw[hdl]at ht;have h2:(i+m)*k+t<(n+m)*k:=by
    rw[hnm,him];have:(n-i)*k=n*k-i*k:=AR8 ..;omega
   have:=(oc _ h2).1;rw[←AQz]at this;exact this
  ·rw[World.frozen?_setCells]
   exact h0.2
 have AYC:∀(W:World),(∀x,W.cell? x=W1.cell? x)→(∀x,W.frozen? x=W1.frozen? x)→W.heap=W1.heap→ ∀ty dc,(Builtin.copy_ #[(ρ.t 24),(ρ.t 24)] ty #[.slice (some ⟨b,off+i*k,none⟩) (n+m-i) dc,.slice (some va) m vc]).run P W= .ok (goInt m) (W.setCells b (off+i*k) vs):=fun W hWc hWf rW ty dc=>
  bH (n:=m) L.t24 t_ (by simp only[Nat.min_def];split<;>omega) (fun V hV=>by subst hV;rw[hk];exact Vt _ (by rw[rW];exact AXF)) (fun j hj=>⟨by rw[hWc];exact(ANz j hj).1,by rw[hWf];exact(ANz j hj).2⟩) h1v
 rw[←hW1]at AUe;obtain⟨vab,vao,vas⟩:=va;clear hmul ACa Hw hnm him oc ANz uV hdl
 go_enter L.f22,Body2.n22_ntmps ρ
 go_wp2_with (simp only[hov])
 go_region_law_o (refine step_copy_runI rfl _ _ (ρ.t 24) (ρ.t 24) rfl _ _ (by simp[Act.eval,Act.put]) (by simp[Act.eval,Act.put]) (AUe _ _ _) ?_)
 go_wp2_with (at_builtin;refine wpList_copy_runI _ rfl _ _ (ρ.t 24) (ρ.t 24) rfl _ _ rfl rfl (AYC _ (fun _=>rfl) (fun _=>rfl) rfl _ _) ?_)
 go_ret
 first|exact⟨rfl,_,rfl,⟨rfl,rfl,rfl,APM _⟩,rfl⟩|exact⟨rfl,w.drew,rfl,⟨rfl,rfl,rfl,APM _⟩,by first|rfl|rw[hW1]⟩
set_option maxHeartbeats 4000000 in
set_option maxRecDepth 100000 in
theorem ADE(L:dd P ρ nm fv){i0:TypeInfo}(t_:P.info? (ρ.t 9)=some i0)(b off n c:Nat)(va:Addr)(m vc:Nat)(vs:List Value)(w:World)(hm:0<m)(TC:n+m≤c)
  (oc:w.there b (off+n*i0.size) vs.length) (hn:j5 P w i0.size m (.slice (some va) m vc) vs) (h1v:∀v∈vs,v.oneCell' =true):
  Calls P (ρ.f 22) #[.slice (some ⟨b,off,none⟩) n c,.int .i64 n,.slice (some va) m vc] w fun e w' =>
   e= .returned (.slice (some ⟨b,off,none⟩) (n+m) c)∧w' =w.setCells b (off+n*i0.size) vs:=by
 have t0:=L.t0;have a0:=L.a0;have z0:=L.z0;have v0:=L.v0;have t3:=L.t3;have a3:=L.a3;have z3:=L.z3;have v3:=L.v3;have t4:=L.t4;have a4:=L.a4;have z4:=L.z4;have v4:=L.v4;have t24:=L.t24;have a24:=L.a24;have z24:=L.z24;have v24:=L.v24;have u0:=run_underlying L.t0;have u3:=run_underlying L.t3;have u4:=run_underlying L.t4;have IZ:=run_underlying L.t24;have z9:∀w,(Go.sizeOf (ρ.t 9)).run P w= .ok i0.size w:=fun w=>by simp[sizeOf,typeInfo,t_]
 have mixed:=L.mixed;have hz1: ¬((m:Int)=0):=by omega
 have jl:∀ty,(Builtin.append_ #[(ρ.t 24),(ρ.t 24)] ty #[.slice (some ⟨b,off,none⟩) n c,.slice (some va) m vc]).run P w=_:=fun ty=>
  fN (ts:= #[(ρ.t 24),(ρ.t 24)]) (ty:=ty) rfl rfl L.t24 (.inl ⟨_,L.t24⟩) t_ rfl hn TC oc h1v
 clear oc hn
 generalize hk:i0.size=k at*
 obtain⟨vab,vao,vas⟩:=va
 go_enter L.f22,Body2.n22_ntmps ρ
 go_wp2_with (at_builtin;refine Lib.wpList_append_run _ rfl _ _ (ρ.t 24) (ρ.t 24) rfl _ _ rfl rfl _ _ (jl _) ?_)
 go_ret
 exact⟨rfl,rfl⟩
set_option maxHeartbeats 4000000 in
set_option maxRecDepth 100000 in
theorem ABE(L:dd P ρ nm fv){i0:TypeInfo}{z:Value}(t_:P.info? (ρ.t 9)=some i0)(hz:i0.zero=some z)(hby:i0.bytes≤512)(ad:Option Addr)(n c:Nat)(va:Addr)(m vc:Nat)(cs vs:List Value)(w:World)(hm:0<m)(hnc:n≤c)(TC:c<n+m)(Xy:n+m≤DA)
  (ho:∀w',w'.heap=w.heap→(Builtin.firstCells i0.size n (.slice ad n c)).run P w' = .ok cs.toArray w') (hn:j5 P w i0.size m (.slice (some va) m vc) vs):
  Calls P (ρ.f 22) #[.slice ad n c,.int .i64 n,.slice (some va) m vc] w fun e w' =>
   e= .returned (.slice (some ⟨w.heap.size,0,none⟩) (n+m) (grownCap w (n+m) c (ρ.t 9)))∧
   w' =w.drew.alloc (.cells (cs.toArray++vs.toArray++Builtin.zeroCells z.cells (grownCap w (n+m) c (ρ.t 9)-(n+m))) (ρ.t 9)):=by
 have t0:=L.t0;have a0:=L.a0;have z0:=L.z0;have v0:=L.v0;have t3:=L.t3;have a3:=L.a3;have z3:=L.z3;have v3:=L.v3;have t4:=L.t4;have a4:=L.a4;have z4:=L.z4;have v4:=L.v4;have t24:=L.t24;have a24:=L.a24;have z24:=L.z24;have v24:=L.v24;have u0:=run_underlying L.t0;have u3:=run_underlying L.t3;have u4:=run_underlying L.t4;have IZ:=run_underlying L.t24;have z9:∀w,(Go.sizeOf (ρ.t 9)).run P w= .ok i0.size w:=fun w=>by simp[sizeOf,typeInfo,t_]
 have mixed:=L.mixed;have hz1: ¬((m:Int)=0):=by omega
 have jl:∀ty,(Builtin.append_ #[(ρ.t 24),(ρ.t 24)] ty #[.slice ad n c,.slice (some va) m vc]).run P w=_:=fun ty=>
  bg (ts:= #[(ρ.t 24),(ρ.t 24)]) (ty:=ty) rfl rfl L.t24 (.inl ⟨_,L.t24⟩) t_ hz rfl ho hn TC Xy hby
 clear hn ho
 obtain⟨W1,hW1⟩:∃W1,W1=w.drew.alloc (.cells (cs.toArray++vs.toArray++Builtin.zeroCells z.cells (grownCap w (n+m) c (ρ.t 9)-(n+m))) (ρ.t 9)):=⟨_,rfl⟩;rw[←hW1]at jl⊢;clear hW1
 generalize hk:i0.size=k at*
 obtain⟨vab,vao,vas⟩:=va
 go_enter L.f22,Body2.n22_ntmps ρ
 cases ad with
 |none=>
  go_wp2_with (at_builtin;refine Lib.wpList_append_run _ rfl _ _ (ρ.t 24) (ρ.t 24) rfl _ _ rfl rfl _ _ (jl _) ?_)
  all_goals (go_ret;exact⟨rfl,rfl⟩)
 |some a=>
  obtain⟨ab,ao,asp⟩:=a
  go_wp2_with (at_builtin;refine Lib.wpList_append_run _ rfl _ _ (ρ.t 24) (ρ.t 24) rfl _ _ rfl rfl _ _ (jl _) ?_)
  all_goals (go_ret;exact⟨rfl,rfl⟩)
set_option maxHeartbeats 4000000 in
set_option maxRecDepth 100000 in
theorem AJw(L:dd P ρ nm fv){i0:TypeInfo}{z:Value}(t_:P.info? (ρ.t 9)=some i0)(hz:i0.zero=some z)(hzl:z.cells.size=i0.size)(hs0:0<i0.size)(hby:i0.bytes≤512)(b off n c i:Nat)(va:Addr)(m vc:Nat)(cs vs:List Value)(w:World)(hi:i<n)(hm:0<m)(hnc:n≤c)(TC:c<n+m)(Xy:n+m≤DA)
  (YF:cs.length=n*i0.size) (hvl:vs.length=m*i0.size) (qA:b<w.heap.size) (uV:BT w b off cs) (hvw:va.block<w.heap.size)
  (Vt:∀W:World,W.heap[va.block]? =w.heap[va.block]?→(Builtin.firstCells i0.size m (.slice (some va) m vc)).run P W= .ok vs.toArray W) (h1c:∀v∈cs,v.oneCell' =true) (h1v:∀v∈vs,v.oneCell' =true):
  Calls P (ρ.f 22) #[.slice (some ⟨b,off,none⟩) n c,.int .i64 i,.slice (some va) m vc] w fun e w' =>
   e= .returned (.slice (some ⟨w.heap.size,0,none⟩) (n+m) (grownCap w (n+m) c (ρ.t 9)))∧
   ∃W:World,W.heap=w.heap.push (.cells ((cs.take (i*i0.size)).toArray++Builtin.zeroCells z.cells (n+m-i)++Builtin.zeroCells z.cells (grownCap w (n+m) c (ρ.t 9)-(n+m))) (ρ.t 9))∧W.os=w.os∧W.tape=w.tape∧W.output=w.output∧
    w' =(W.setCells w.heap.size (i*i0.size) vs).setCells w.heap.size ((i+m)*i0.size) (cs.drop (i*i0.size)):=by
 have t0:=L.t0;have a0:=L.a0;have z0:=L.z0;have v0:=L.v0;have t3:=L.t3;have a3:=L.a3;have z3:=L.z3;have v3:=L.v3;have t4:=L.t4;have a4:=L.a4;have z4:=L.z4;have v4:=L.v4;have t24:=L.t24;have a24:=L.a24;have z24:=L.z24;have v24:=L.v24;have u0:=run_underlying L.t0;have u3:=run_underlying L.t3;have u4:=run_underlying L.t4;have IZ:=run_underlying L.t24;have z9:∀w,(Go.sizeOf (ρ.t 9)).run P w= .ok i0.size w:=fun w=>by simp[sizeOf,typeInfo,t_]
 have mixed:=L.mixed;have ABM:=Xy;simp only[DA]at ABM;have hz1: ¬((m:Int)=0):=by omega
 have hz2: ¬((i:Int)=(n:Int)):=by omega
 have hz3:(c:Int)<(n:Int)+(m:Int):=by omega
 have hkk:(n:Int)+(m:Int)-(i:Int)=((n+m-i:Nat):Int):=by omega
 have hik:i+(n+m-i)=n+m:=by omega
 have ACa:i*i0.size≤n*i0.size:=AOr _ (by omega);have hnm:(n+m)*i0.size=n*i0.size+m*i0.size:=AQm ..;have him:(i+m)*i0.size=i*i0.size+m*i0.size:=AQm ..;have hni:(n-i)*i0.size=n*i0.size-i*i0.size:=AR8 ..;have hold:(Builtin.firstCells i0.size i (.slice (some ⟨b,off,none⟩) i c)).run P w.drew= .ok (cs.take (i*i0.size)).toArray w.drew:=by
  simp only[Builtin.firstCells];have hl:(cs.take (i*i0.size)).length=i*i0.size:=by rw[ASS];omega
  have hca:BT w.drew b off (cs.take (i*i0.size)):=fun j v hj=>by
   rw[ASn]at hj;split at hj
   ·exact uV j v hj
   ·cases hj
  conv=>lhs;rw[←hl]
  exact Ll hca
 have ATs:(n+m)*i0.bytes≤140737488355328:=by
  have:(n+m)*i0.bytes≤DA*512:=Nat.mul_le_mul Xy hby;simp only[DA]at this;omega
 have ALI:(n+m-i)*i0.bytes≤281474976710656:=by
  have:(n+m-i)*i0.bytes≤(n+m)*i0.bytes:=AOr _ (by omega);omega
 have hrz:∀ty,(Builtin.append_ #[(ρ.t 24),(ρ.t 3)] ty #[.slice (some ⟨b,off,none⟩) i c,.int .i64 ((n:Int)+(m:Int)-(i:Int))]).run P w=
   .ok (.slice (some ⟨w.heap.size,0,none⟩) (n+m) (grownCap w (n+m) c (ρ.t 9))) (w.drew.alloc (.cells ((cs.take (i*i0.size)).toArray++Builtin.zeroCells z.cells (n+m-i)++Builtin.zeroCells z.cells (grownCap w (n+m) c (ρ.t 9)-(n+m))) (ρ.t 9))):=fun ty=>by
  have h:=Lib.run_append_grow_zeros w (ρ.t 24) (ρ.t 3) ty (ρ.t 9) i0 z .i64 .i64 L.t24 L.t3 t_ hz (some ⟨b,off,none⟩) i c (cs.take (i*i0.size)) hold (n+m-i) (by omega) hs0 (by omega) (by omega) ALI (by rw[hik];exact growslice_fits TC ATs);rw[hik]at h;rw[hkk];exact h
 have hGn:n+m≤grownCap w (n+m) c (ρ.t 9):=grownCap_ge w _ _ _;have AV6:grownCap w (n+m) c (ρ.t 9)≤9223372036854775807:=by
  have:=grownCap_le_maxLen w (n+m) c (ρ.t 9) (by unfold maxLen;omega);unfold maxLen at this;omega
 obtain⟨G,hG⟩:∃G,G=grownCap w (n+m) c (ρ.t 9):=⟨_,rfl⟩;rw[←hG]at hrz hGn AV6⊢;obtain⟨ROW,zU⟩:∃ROW:Array Value,ROW=(cs.take (i*i0.size)).toArray++Builtin.zeroCells z.cells (n+m-i)++Builtin.zeroCells z.cells (G-(n+m)):=⟨_,rfl⟩;rw[←zU]at hrz⊢;have hRl:(n+m)*i0.size≤ROW.size:=by
  rw[zU];simp only[AUR,AUZ,size_zeroCells,hzl,ASS];have e1:(n+m-i)*i0.size=(n+m)*i0.size-i*i0.size:=AR8 ..;omega
 obtain⟨W1,hW1⟩:∃W1,W1=w.drew.alloc (.cells ROW (ρ.t 9)):=⟨_,rfl⟩;rw[←hW1]at hrz;have ATC:W1.heap[w.heap.size]? =some (.cells ROW (ρ.t 9)):=by
  rw[hW1]
  show(w.heap.push (.cells ROW (ρ.t 9)))[w.heap.size]? =_
  simp
 have ACS:∀x,x<w.heap.size→W1.heap[x]? =w.heap[x]?:=fun x hx=>by rw[hW1];exact Ir hx
 have hN:∀o l,o+l≤(n+m)*i0.size→W1.there w.heap.size o l:=fun o l h=>UW (k:=1) ATC (by omega) (Wa _)
 have hdl:(cs.drop (i*i0.size)).length=(n-i)*i0.size:=by rw[ASJ,YF,hni]
 have AYS:∀(W:World),(∀x,W.cell? x=W1.cell? x)→(∀x,W.frozen? x=W1.frozen? x)→W.heap=W1.heap→ ∀ty dc,(Builtin.copy_ #[(ρ.t 24),(ρ.t 24)] ty #[.slice (some ⟨w.heap.size,i*i0.size,none⟩) (n+m-i) dc,.slice (some va) m vc]).run P W= .ok (goInt m) (W.setCells w.heap.size (i*i0.size) vs):=fun W hWc hWf rW ty dc=>
  bH (n:=m) L.t24 t_ (by simp only[Nat.min_def];split<;>omega) (fun V hV=>by subst hV;exact Vt _ (by rw[rW];exact ACS _ hvw)) (fun j hj=>by
   have:=hN (i*i0.size) (m*i0.size) (by omega) j (by omega);exact⟨by rw[hWc];exact this.1,by rw[hWf];exact this.2⟩) h1v
 have ASM:∀(W:World),(∀x,W.cell? x=(W1.setCells w.heap.size (i*i0.size) vs).cell? x)→(∀x,W.frozen? x=(W1.setCells w.heap.size (i*i0.size) vs).frozen? x)→W.heap=(W1.setCells w.heap.size (i*i0.size) vs).heap→ ∀ty dc sc,(Builtin.copy_ #[(ρ.t 24),(ρ.t 24)] ty #[.slice (some ⟨w.heap.size,(i+m)*i0.size,none⟩) (n+m-(i+m)) dc,.slice (some ⟨b,off+i*i0.size,none⟩) (n-i) sc]).run P W= .ok (goInt (n-i:Nat)) (W.setCells w.heap.size ((i+m)*i0.size) (cs.drop (i*i0.size))):=fun W hWc hWf rW ty dc sc=>
  bH (n:=n-i) L.t24 t_ (by simp only[Nat.min_def];split<;>omega) (fun V hV=>by
   subst hV;simp only[Builtin.firstCells];rw[←hdl];refine Ll fun j v hj=> ?_
   rw[ASk]at hj;have h3:=uV _ v hj;rw[←AQz]at h3;rw[←h3];refine World.cell?_of_block (a:=⟨b,off+i*i0.size+j,none⟩) ?_
   rw[rW,DM _ _ _ _ _ (show b≠w.heap.size by omega)];exact ACS b qA) (fun j hj=>by
   have hb:W1.there w.heap.size ((i+m)*i0.size) (cs.drop (i*i0.size)).length:=hN _ _ (by omega);refine⟨?_,?_⟩
   ·rw[hWc]
    exact isSome_setCells _ _ _ _ (fun t ht=>(hN (i*i0.size) vs.length (by omega) t ht).1) _ (hb j hj).1
   ·rw[hWf,World.frozen?_setCells]
    exact(hb j hj).2) (fun v hv=>h1c v (ARi hv))
 generalize hk:i0.size=k at*
 have hE1:∀x,((w.alloc (.cells ROW (ρ.t 9))).drew).cell? x=W1.cell? x:=fun x=>by rw[hW1];rfl
 have hE2:∀x,((w.alloc (.cells ROW (ρ.t 9))).drew).frozen? x=W1.frozen? x:=fun x=>by rw[hW1];rfl
 have hE3:((w.alloc (.cells ROW (ρ.t 9))).drew).heap=W1.heap:=by rw[hW1];rfl
 have hF1:∀x,(((w.alloc (.cells ROW (ρ.t 9))).drew.setCells w.heap.size (i*k) vs).drew).cell? x=(W1.setCells w.heap.size (i*k) vs).cell? x:=fun x=>by rw[hW1];rfl
 have hF2:∀x,(((w.alloc (.cells ROW (ρ.t 9))).drew.setCells w.heap.size (i*k) vs).drew).frozen? x=(W1.setCells w.heap.size (i*k) vs).frozen? x:=fun x=>by rw[hW1];rfl
 have hF3:(((w.alloc (.cells ROW (ρ.t 9))).drew.setCells w.heap.size (i*k) vs).drew).heap=(W1.setCells w.heap.size (i*k) vs).heap:=by rw[hW1];rfl
 have hw1:IntKind.i64.wrap ((i:Int)+(m:Int))=(i:Int)+(m:Int):=by rw[IntKind.wrap_i64];omega
 have hb1:(0:Int)≤(i:Int)+(m:Int):=by omega
 have TQ:i≤n:=by omega
 have htn:((i:Int)+(m:Int)).toNat=i+m:=by omega
 have hb3:(i:Int)≤(n:Int):=by omega
 have hGi: ¬(G=i):=by omega
 have Abp: ¬(G=i+m):=by omega
 have hci: ¬(c=i):=by omega
 subst hW1;clear hkk hik hold zU hG hRl ACa hnm him hni hdl hN uV Vt ATC ACS ATs ALI;obtain⟨vab,vao,vas⟩:=va
 go_enter L.f22,Body2.n22_ntmps ρ
 go_wp2_with (first
  |(at_builtin;refine Lib.wpList_append_run _ rfl _ _ _ _ rfl _ _ rfl rfl _ _ (hrz _) ?_)
  |(at_builtin;refine wpList_copy_runI _ rfl _ _ (ρ.t 24) (ρ.t 24) rfl _ _ rfl rfl (AYS _ hE1 hE2 hE3 _ _) ?_)
  |(at_builtin;refine wpList_copy_runI _ rfl _ _ (ρ.t 24) (ρ.t 24) rfl _ _ rfl rfl (ASM _ (fun _=>rfl) (fun _=>rfl) rfl _ _ _) ?_))
 go_region_law_o (refine step_copy_runI rfl _ _ (ρ.t 24) (ρ.t 24) rfl (.slice (some ⟨w.heap.size,(i+m)*k,none⟩) (n+m-(i+m)) (G-(i+m))) (.slice (some ⟨b,off+i*k,none⟩) (n-i) (c-i)) (by simp[Act.eval,Act.put]) (by simp[Act.eval,Act.put]) (ASM _ hF1 hF2 hF3 (ρ.t 3) (G-(i+m)) (c-i)) ?_)
 go_wp2
 go_ret
 refine⟨rfl,((w.alloc (.cells ROW (ρ.t 9))).drew).drew,rfl,rfl,rfl,rfl,?_⟩;rw[drew_setCells]
end
end Go.Fw
end
section
namespace Go.Fw
open Go.Proofs Go.Shelf Go.RowKit Go.Lib
def Flat(w:World)(r:Ty)(css:List (List Value))(rows:List r.D):Prop:=
 css.length=rows.length∧(∀c∈css,c.length=r.n)∧ ∀(i:Nat) cs y,css[i]? =some cs→rows[i]? =some y→Rd w (fun _=>False) r cs y
theorem Flat.to{w w':World}{r:Ty}(hf:r.flat=true){css:List (List Value)}{rows:List r.D}(h:Flat w r css rows):Flat w' r css rows:=
 ⟨h.1,h.2.1,fun i cs y a b=>eP hf (h.2.2 i cs y a b)⟩
theorem Flat.take{w:World}{r:Ty}{css:List (List Value)}{rows:List r.D}(h:Flat w r css rows)(n:Nat):Flat w r (css.take n) (rows.take n):=by
 refine⟨by simp[h.1],fun c hc=>h.2.1 c (ATe hc),fun i cs y a b=> ?_⟩;rw[ASn]at a b;split at a
 ·rename_i hi
  rw[ALC hi]at b;exact h.2.2 i cs y a b
 simp_all
theorem Flat.drop{w:World}{r:Ty}{css:List (List Value)}{rows:List r.D}(h:Flat w r css rows)(n:Nat):Flat w r (css.drop n) (rows.drop n):=by
 refine⟨by simp[h.1],fun c hc=>h.2.1 c (ARi hc),fun i cs y a b=> ?_⟩;rw[ASk]at a b;exact h.2.2 _ cs y a b
theorem Flat.append{w:World}{r:Ty}{css ri:List (List Value)}{rows ATE:List r.D}(h:Flat w r css rows)(k:Flat w r ri ATE):Flat w r (css++ri) (rows++ATE):=by
 refine⟨by simp[h.1,k.1],fun c hc=>(AOO.1 hc).elim (h.2.1 c) (k.2.1 c),fun i cs y a b=> ?_⟩;by_cases hi:i<rows.length
 ·rw[AOh (by rw[h.1];omega)]at a
  rw[AOh hi]at b;exact h.2.2 i cs y a b
 ·rw[APH (by rw[h.1];omega)]at a
  rw[APH (by omega)]at b;rw[h.1]at a;exact k.2.2 _ cs y a b
theorem Flat.one{w:World}{r:Ty}(hf:r.flat=true){css:List (List Value)}{rows:List r.D}(h:Flat w r css rows):∀v∈css.flatten,v.oneCell' =true:=by
 intro v hv;obtain⟨c,hc,hv⟩:=AQP.1 hv;obtain⟨i,hi,rfl⟩:=AQS hc;have h1:=h.1;exact k_ (jA (S:=fun _=>False) (d:=0) hf (h.2.2 i _ _ (ALD hi) (ALD (by omega)))) v hv
theorem Flat.at{w:World}{S:Nat→Prop}{d:Nat}{r:Ty}(hf:r.flat=true){css:List (List Value)}{rows:List r.D}(h:Flat w r css rows):FE w S d r css rows (List.replicate rows.length []):=FE.flat hf h.1 h.2.1 h.2.2
theorem AGy{w:World}{S:Nat→Prop}{r:Ty}(hf:r.flat=true){css:List (List Value)}{rows:List r.D}{Fs:List AAs}{d:Nat}(h:FE w S d r css rows Fs):Flat w r css rows:=by
 refine⟨h.1,h.2.2.1,fun i cs y a b=> ?_⟩;have hi:=(ALO.1 b).1;have h2:=h.2.1;exact eP hf (XH (h.2.2.2 i cs y (Fs[i]'(by omega)) a b (ALD _)))
theorem Flat.rZ{w:World}{r:Ty}{css:List (List Value)}{rows:List r.D}(h:Flat w r css rows)(n:Nat)(hn:n≤rows.length):css.flatten.take (n*r.n)=(css.take n).flatten:=by
 have h1:((css.take n).flatten).length=n*r.n:=by
  rw[Hq (n:=r.n) (fun c hc=>h.2.1 c (ATe hc)),ASS,h.1,Nat.min_eq_left hn]
 grind[List.take_append_drop,List.flatten_append,List.take_of_length_le]
theorem Flat.rL{w:World}{r:Ty}{css:List (List Value)}{rows:List r.D}(h:Flat w r css rows)(n:Nat)(hn:n≤rows.length):css.flatten.drop (n*r.n)=(css.drop n).flatten:=by
 have h1:((css.take n).flatten).length=n*r.n:=by
  rw[Hq (n:=r.n) (fun c hc=>h.2.1 c (ATe hc)),ASS,h.1,Nat.min_eq_left hn]
 grind[List.take_append_drop,List.flatten_append,List.drop_eq_nil_of_le]
theorem g_{w:World}{S:Nat→Prop}{d b o cap:Nat}{r:Ty}{rows:List r.D}{css:List (List Value)}{Fs:List AAs}{arr:Array Value}{ty:TypeId}{fr:ABj}(h:FE w S d r css rows Fs)(hb:w.heap[b]? =some (.cells arr ty fr))
  (hc:BT w b o css.flatten) (wg:rows.length≤cap) (PQ:o+cap*r.n≤arr.size) (hu:v_ fr (arr.size+mk r)):Ow w S (d+1) (.sl r) [.slice (some ⟨b,o,none⟩) rows.length cap] rows (b::Fs.flatten):=by
 simp only[Ow];refine⟨_,cap,rfl,wg,.inr ⟨b,o,arr,ty,fr,Fs,rfl,hb,PQ,hu,rfl,h.2.1,fun j q G hq hG=> ?_⟩⟩;have hj:=(ALO.1 hq).1;have h1:=h.1;have wI:j<css.length:=by omega
 refine⟨css[j],h.2.2.1 _ (AMx _),fun x u hx=> ?_,h.2.2.2 j _ _ _ (ALD wI) hq hG⟩;have hxl:=(ALO.1 hx).1;rw[h.2.2.1 _ (AMx _)]at hxl;have:=Ye (n:=r.n) (css:=css) (ex:=[]) (i:=j) h.2.2.1 (ALD wI) hxl;rw[ANI,hx]at this;have:=hc _ _ this;grind
theorem lJ{w:World}{b o:Nat}{A V B:List Value}{arr:Array Value}{ty:TypeId}{fr:ABj}(hb:w.heap[b]? =some (.cells arr ty fr))(hs:o+(A.length+V.length)+B.length≤arr.size)(hA:BT w b o A):
  ∃KI,((w.setCells b (o+(A.length+V.length)) B).setCells b (o+A.length) V).heap[b]? =some (.cells KI ty fr)∧KI.size=arr.size∧BT ((w.setCells b (o+(A.length+V.length)) B).setCells b (o+A.length) V) b o (A++V++B):=by
 have h1:=FU B (o+(A.length+V.length)) w b arr ty fr hb;have z1:(FC arr (o+(A.length+V.length)) B).size=arr.size:=FT ..;have h2:=FU V (o+A.length) _ b _ ty fr h1;grind[N8,FT,BT.append,UH,List.length_append]
theorem iM{w:World}{b o:Nat}{A V B:List Value}{arr:Array Value}{ty:TypeId}{fr:ABj}(hb:w.heap[b]? =some (.cells arr ty fr))(hs:o+(A.length+V.length)+B.length≤arr.size)(hA:BT w b o A):
  ∃KI,((w.setCells b (o+A.length) V).setCells b (o+(A.length+V.length)) B).heap[b]? =some (.cells KI ty fr)∧KI.size=arr.size∧BT ((w.setCells b (o+A.length) V).setCells b (o+(A.length+V.length)) B) b o (A++V++B):=by
 have h1:=FU V (o+A.length) w b arr ty fr hb;have z1:(FC arr (o+A.length) V).size=arr.size:=FT ..;have h2:=FU B (o+(A.length+V.length)) _ b _ ty fr h1;grind[N8,FT,BT.append,UH,List.length_append]
@[reducible] def rO (r:Ty):A5:=⟨[(0,.c (.ref 0)),(1,.c (.v (.int .i64))),(2,.c (.sl false r))],[.sl 1 r]⟩
@[reducible] def xO (r:Ty):A5:=⟨[(0,.c (.ref 1))],[.gone,.sl 1 r]⟩
theorem y9{P:Program}{f:Nat}{args:Array Value}{E:Env}{w:World}{r:Ty}{d:Nat}(hd:1≤d){F:AAs}(hS:Sep E w F){l:List r.D}{Q:Ending→World→Prop}
  (h:Calls P f args w Q) (hq:∀e w',Q e w'→ ∃v F',e= .returned v∧isSlice v=true∧Ow w' E.S d (.sl r) [v] l F'∧F'.Nodup∧(∀c∈F',¬E.T c∧c<w'.heap.size)∧(∀c,E.T c→w'.heap[c]? =w.heap[c]?)∧Grown w w'):
  Calls P f args w fun e w' => ∃x E',e= .returned x∧cl E w E' w'∧C7 E' w' [.dead,.sl d r l] [.dead,.sl d r l] []∧
   OG E' w' [.dead,.sl d r l] id [(0,.c (.ref 1))] ((),()) [x]∧ ∀i,i<1→alive [.gone,.sl d r] i=true→E'.Hz i=E.Hz i∧E'.Hy i=E.Hy i:=by
 refine h.mono fun e w' hh=> ?_
 obtain⟨v,F',rfl,hv,ho,nd,hfr,hT,hg⟩:=hq e w' hh
 let E':Env:={ E with Hy:=fun n=>if n=1 then v else E.Hy n }
 refine⟨v,E',rfl,⟨fun _ h=>h,fun _ h=>h,fun _ h=> .inl h,fun _ h=> .inl h,hT,hg.os,hg.tape,hg.output,hg.size⟩,⟨[[],F'],⟨rfl,fun k B F hB hF=> ?_⟩,?_⟩,?_,fun i hi ha=> ?_⟩
 ·match k with
  |0=>
   simp at hB hF;subst hB hF;rfl
  |1=>
   simp at hB hF;subst hB hF;exact⟨hd,ho⟩
  |k+2=>simp_all
 ·refine⟨by simp_all,fun c hc=>(hfr c (by simp_all)).1,fun c hc=>(hfr c (by simp_all)).2,hS.st,fun c hc=>AQZ (hS.cX c hc) hg.size⟩
 ·refine⟨⟨v,rfl,?_⟩,trivial⟩
  refine⟨hv,?_⟩
  show C_ r l []∧(∃q,G3 r l []=some q)∧I2 w' (E'.Hy 1) []=some v
  refine⟨trivial,⟨_,rfl⟩,?_⟩;rfl
 grind
end Go.Fw
end
section
namespace Go.Fw
open Go.M Go.Proofs Go.Shelf Go.RowKit Go.Lib
theorem vC{w:World}{b:Nat}{arr:Array Value}{ty:TypeId}{fr:ABj}(h:w.heap[b]? =some (.cells arr ty fr)):w.shape? b=some (ty,arr.size):=by
 simp[World.shape?,h]
theorem ACV{w:World}{b o:Nat}{v:Value}(h:w.cell? ⟨b,o,none⟩=some v):∃arr ty fr,w.heap[b]? =some (.cells arr ty fr)∧o<arr.size:=by
 unfold World.cell? at h;grind
theorem Grown.trans'{w w' w'':World}(h:Grown w w')(k:Grown w' w''):Grown w w'':=⟨k.os.trans h.os,k.tape.trans h.tape,k.output.trans h.output,AQL h.size k.size⟩
theorem tp{P:Program}{T:Jm}{ρ:Ren}{nm:String}{fv:Func}(hT:En P T)(L:dd P ρ nm fv){r:Ty}(Uj:T.NP (ρ.t 24) r=true)(hf:r.flat=true)(ZS:mk r=1)(hn0:0<r.n):
  Wt P (ρ.f 22) ⟨rO r,xO r,fun v=>(v7 v.1.2.1 v.1.2.2.1 v.2.1).map fun l=>(((),()),((),l,()))⟩:=by
 refine⟨by simp[Pj.ok,kinds,jy,AP.LZ,XP.LZ,BP.LZ],W_ L.f22 L.n22 (by kernel_rfl),?_⟩;intro E w v args u AUD hB hS hg;obtain⟨⟨u0,p,vs,u1⟩,rows,u2⟩:=v;obtain⟨⟨⟨⟩,⟨⟩⟩,⟨⟩,l,⟨⟩⟩:=u;simp only[ALN]at hg;obtain⟨l',kV,hg⟩:=hg;simp only[AQD,true_and,AQc]at hg;subst hg;unfold v7 at kV;split at kV
 case isFalse=>cases kV
 rename_i hc;obtain⟨hp0,hp1,Xy⟩:=hc;obtain⟨p,rfl⟩:=AUB hp0;simp only[AMp,ALL]at kV;have hpn:p≤rows.length:=by omega
 obtain⟨⟨a0,h0,x0⟩,⟨a1,h1,x1⟩,⟨a2,h2,x2⟩,_⟩:=hS;have IP:args= #[a0,a1,a2]:=by
  have hl3:args.toList.length=3:=AUD;apply Array.ext'
  match hq:args.toList,hl3 with
  |[b0,b1,b2],_=>
   rw[hq]at h0 h1 h2;simp at h0 h1 h2;simp[h0,h1,h2]
 subst IP;have e0:E.Hy 0=a0:=by
  have:VR E w [Bx.sl 1 r rows] (.ref 0 []) a0:=x0;simp only[VR]at this;obtain⟨_,_,_,h⟩:=this;rw[C4]at h;exact AVB h
 have e1:a1= .int .i64 (p:Int):=by
  have:VR E w [Bx.sl 1 r rows] (.v (.int .i64) (p:Int)) a1:=x1;simp only[VR,Rd,APx,AQc]at this;exact this.2
 have e2:Rd w E.T (.sl r) [a2] vs:=by
  have:VR E w [Bx.sl 1 r rows] (.sl false r vs) a2:=x2;simp only[VR]at this;simpa using this
 subst e1;obtain⟨Fs,⟨hFl,hFb⟩,hSep⟩:=hB;obtain⟨F,rfl⟩:∃F,Fs=[F]:=by
  match Fs,hFl with
  |[F],_=>exact⟨F,rfl⟩
 have ADC:=hFb 0 (.sl 1 r rows) F rfl rfl;obtain⟨_,ho⟩:=ADC;rw[e0]at ho;simp only[AQ1,ASC,ANI]at hSep;have ho0:=ho;obtain⟨ad,cap,css,Fs1,R1,rfl,hle,hd,hp1',hcase⟩:=nC ho;have ui:=AGy hf hd;obtain⟨e,ti,hut,Uy,hs1,hby,hrow⟩:=Ka hT Uj;obtain⟨i0,z,i1,i2,i3,i4,i5,lj⟩:=Wc hT Uy hrow;have he:e=ρ.t 9:=by
  have:=L.t24.symm.trans hut;simp at this;exact this.symm
 subst he;rw[hs1]at i2;have z9:∀w,(Go.sizeOf (ρ.t 9)).run P w= .ok r.n w:=fun w=>by simp[sizeOf,typeInfo,i1,i2]
 have hzl:z.cells.size=r.n:=by rw[←AR5,i5,Gm]
 have e2':=e2;simp only[Rd]at e2;obtain⟨va,vc,aO,hvle,hvr⟩:=e2;simp only[APx,AQc]at aO;subst aO;have fin:∀{Q:Ending→World→Prop},Calls P (ρ.f 22) #[.slice ad rows.length cap,.int .i64 (p:Int),.slice va vs.length vc] w Q→
   (∀e w',Q e w'→ ∃v F',e= .returned v∧isSlice v=true∧Ow w' E.S 1 (.sl r) [v] l' F'∧F'.Nodup∧(∀c∈F',¬E.T c∧c<w'.heap.size)∧(∀c,E.T c→w'.heap[c]? =w.heap[c]?)∧Grown w w')→_:=fun h hq=>y9 (APM 1) hSep h hq
 have lQ:∀n:Nat,(List.replicate n ([]:AAs)).flatten=[]:=fun n=>by simp
 by_cases hm0:vs.length=0
 ·
  have AY6:vs=[]:=AP0 hm0;subst AY6;have hl:rows=l':=by rw[←kV,ANI,ATK]
  subst hl;refine fin (AC6 (k:=r.n) L z9 ad rows.length cap p va vc w hpn hle) fun e w' h=> ?_
  obtain⟨rfl,rfl⟩:=h;exact⟨_,F,rfl,rfl,ho0,hSep.nodup,fun c hc=>⟨hSep.free c hc,hSep.lt c hc⟩,fun _ _=>rfl,⟨rfl,rfl,rfl,APM _⟩⟩
 have hm:0<vs.length:=by omega
 rcases hvr with hvr|⟨vb,vo,rfl,hvT,hvr⟩
 ·exact absurd hvr hm0
 obtain⟨ri,c1,c2,c3,c4⟩:=nX hvr;have X8:Flat w r ri vs:=⟨c1,c2,fun i cs y a b=>eP hf (c4 i cs y a b)⟩;have wo:ri.flatten.length=vs.length*r.n:=by rw[Hq c2,c1]
 have w6:css.flatten.length=rows.length*r.n:=by rw[Hq hd.2.2.1,hd.1]
 have ARW:0<ri.flatten.length:=by rw[wo];exact Nat.mul_pos hm hn0
 obtain⟨arrv,tyv,frv,hbv,hov⟩:=ACV (c3 0 _ (ALD ARW));have AWa:vb<w.heap.size:=by
  by_cases hh:vb<w.heap.size
  ·exact hh
  ·rw[Array.getElem?_eq_none (by omega)]at hbv;cases hbv
 have lU:j5 P w r.n vs.length (.slice (some ⟨vb,vo,none⟩) vs.length vc) ri.flatten:=Qb c1 c2 (.inr ⟨vb,vo,rfl,c3⟩);have AR7:∀W:World,W.heap[vb]? =w.heap[vb]?→(Builtin.firstCells r.n vs.length (.slice (some ⟨vb,vo,none⟩) vs.length vc)).run P W= .ok ri.flatten.toArray W:=fun W hW=>by
  simp only[Builtin.firstCells];rw[←wo];exact Ll (c3.of_block hW)
 have AJ7:=ui.one hf;have ACb:=X8.one hf;by_cases TC:rows.length+vs.length≤cap
 ·rcases hcase with⟨h0,_⟩|⟨b,o,arr,ty,fr,rfl,hb,PQ,hu,rfl,sJ⟩
  ·omega
  have hbT: ¬E.T b:=hSep.free b (by simp);have ACr:b<w.heap.size:=hSep.lt b (by simp);have cq:vb≠b:=fun e=>hbT (e▸hvT)
  have Aaj:(rows.length+vs.length)*r.n≤cap*r.n:=AOr _ TC;have hnm:(rows.length+vs.length)*r.n=rows.length*r.n+vs.length*r.n:=AQm ..;by_cases hpe:p=rows.length
  ·subst hpe
   have hl:rows++vs=l':=by rw[←kV,List.take_length,AQn,ANI]
   subst hl;have iZ:=ADE (ρ:=ρ) L (i0:=i0) i1 b o rows.length cap ⟨vb,vo,none⟩ vs.length vc ri.flatten w hm TC (by rw[i2];exact UW (k:=mk r) hb (by omega) hu) (by rw[i2];exact lU) ACb;refine fin iZ fun e w' h=> ?_
   obtain⟨rfl,rfl⟩:=h;obtain⟨KI,q1,q2,q3⟩:=lJ (B:=[]) (V:=ri.flatten) hb (by simp only[APp];omega) sJ;rw[w6,←i2]at q1 q3;simp only[World.setCells,ANI]at q1 q3;have wC:=(ui.append X8).to (w':=w.setCells b (o+rows.length*i0.size) ri.flatten) hf;refine⟨_,b::(List.replicate (rows++vs).length ([]:AAs)).flatten,rfl,rfl,?_,?_,?_,fun c hc=>DM _ _ _ _ _ (fun e=>hbT (e▸hc)),Bw _ _ _ _⟩
   ·have:=g_ (cap:=cap) (wC.at (S:=E.S) (d:=0) hf) q1 (by rw[AQt];exact q3) (by rw[AOc];exact TC) (by rw[q2];exact PQ) (by rw[q2];exact hu)
    rw[lQ]at this⊢;rw[AOc]at this;exact this
   ·simp
   ·intro c hc
    rw[lQ]at hc;simp at hc;subst hc;exact⟨hbT,by rw[DR];exact ACr⟩
  ·have Hw:p<rows.length:=by omega
   have hpm:p*r.n≤rows.length*r.n:=AOr _ hpn;have ANe:(p+vs.length)*r.n=p*r.n+vs.length*r.n:=AQm ..;have iZ:=zX (ρ:=ρ) L (i0:=i0) i1 (by rw[i2];exact hn0) b o rows.length cap p ⟨vb,vo,none⟩ vs.length vc css.flatten ri.flatten w Hw hm TC Xy cq (by rw[i2];exact w6) (by rw[i2];exact wo) sJ
    (by rw[i2];exact UW (k:=mk r) hb (by omega) hu) (by rw[i2];exact AR7) AJ7 ACb tyv ty arrv.size arr.size (vC hbv) (vC hb) (by omega) (by
     have:=hu arr.size (by omega);obtain⟨lo,hi⟩:=fr;simp only[World.frozen?,hb];simp at this⊢;omega)
   refine fin iZ fun e w' h=> ?_
   obtain⟨rfl,W,rW,hWg,rfl⟩:=h;have hA:(css.flatten.take (p*r.n)).length=p*r.n:=by rw[ASS];omega
   have hB:(css.flatten.drop (p*r.n)).length=rows.length*r.n-p*r.n:=by rw[ASJ,w6]
   have hbW:W.heap[b]? =some (.cells arr ty fr):=by rw[rW];exact hb
   have hcA:BT W b o (css.flatten.take (p*r.n)):=BT.heap (fun j v hj=>by
    rw[ASn]at hj;split at hj
    ·exact sJ j v hj
    ·cases hj) rW
   obtain⟨KI,q1,q2,q3⟩:=lJ (B:=css.flatten.drop (p*r.n)) (V:=ri.flatten) hbW (by omega) hcA;rw[hA,wo,←ANe,←i2]at q1 q3
   generalize qw:(W.setCells b (o+(p+vs.length)*i0.size) (css.flatten.drop (p*i0.size))).setCells b (o+p*i0.size) ri.flatten=w' at q1 q3
   have wC:=(((ui.take p).append X8).append (ui.drop p)).to (w':=w') hf;rw[kV]at wC;have wD:l'.length=rows.length+vs.length:=by rw[←kV];simp;omega
   refine⟨_,b::(List.replicate l'.length ([]:AAs)).flatten,rfl,rfl,?_,?_,?_,fun c hc=> ?_,?_⟩
   ·have:=g_ (cap:=cap) (wC.at (S:=E.S) (d:=0) hf) q1 (by
     rw[AQt,AQt,←ui.rZ p hpn,←ui.rL p hpn,←i2];exact q3) (by rw[wD];exact TC) (by rw[q2];exact PQ) (by rw[q2];exact hu)
    rw[lQ]at this⊢;rw[wD]at this;exact this
   ·simp
   ·intro c hc
    rw[lQ]at hc;simp at hc;subst hc;refine⟨hbT,?_⟩;rw[←qw,DR,DR,rW];exact ACr
   ·have hcb:c≠b:=fun e=>hbT (e▸hc)
    rw[←qw,DM _ _ _ _ _ hcb,DM _ _ _ _ _ hcb,rW]
   ·rw[←qw]
    exact Grown.trans' hWg (Grown.trans' (Bw _ _ _ _) (Bw _ _ _ _))
 ·have hgc:=grownCap_ge w (rows.length+vs.length) cap (ρ.t 9)
  by_cases hpe:p=rows.length
  ·subst hpe
   have hl:rows++vs=l':=by rw[←kV,List.take_length,AQn,ANI]
   subst hl;have hold:rows.length=0∨ ∃b o,ad=some ⟨b,o,none⟩∧BT w b o css.flatten:=by
    rcases hcase with⟨h0,_⟩|⟨b,of,arr,ty0,fr,rfl,hb,PQ,hunf,rfl,hc⟩
    ·exact .inl (by omega)
    ·exact .inr ⟨b,of,rfl,hc⟩
   have iZ:=ABE (ρ:=ρ) L (i0:=i0) (z:=z) i1 i4 (by omega) ad rows.length cap ⟨vb,vo,none⟩ vs.length vc css.flatten ri.flatten w hm hle (by omega) Xy (by rw[i2];exact fS hd.1 hd.2.2.1 hold) (by rw[i2];exact lU);refine fin iZ fun e w' h=> ?_
   obtain⟨rfl,rfl⟩:=h
   generalize grownCap w (rows.length+vs.length) cap (ρ.t 9)=gc at hgc⊢
   generalize cO:css.flatten.toArray++ri.flatten.toArray++Builtin.zeroCells z.cells (gc-(rows.length+vs.length))=arr
   have zm:arr.toList=(css++ri).flatten++(Builtin.zeroCells z.cells (gc-(rows.length+vs.length))).toList:=by rw[←cO];simp
   have AWj:arr.size=gc*r.n:=by
    rw[←cO];simp only[AUR,AUZ,ZN,hzl,wo,w6,←AQm];congr 1;omega
   have new:(w.drew.alloc (.cells arr (ρ.t 9))).heap[w.heap.size]? =some (.cells arr (ρ.t 9)):=by
    show(w.heap.push (.cells arr (ρ.t 9)))[w.heap.size]? =_
    simp
   have wC:=(ui.append X8).to (w':=w.drew.alloc (.cells arr (ρ.t 9))) hf;have hra:=wC.at (S:=E.S) (d:=0) hf;refine⟨_,w.heap.size::(List.replicate (rows++vs).length ([]:AAs)).flatten,rfl,rfl,?_,?_,?_,fun c hc=>Ir (hSep.cX c hc),⟨rfl,rfl,rfl,by show _≤(w.heap.push _).size;simp⟩⟩
   ·have:=dx (cap:=gc) new zm hra.1 (by rw[AOc];exact hgc) (by omega) (Wa _) hra.2.1 hra.2.2.2
    rw[lQ]at this⊢;rw[AOc]at this;exact this
   ·simp
   ·intro c hc
    rw[lQ]at hc;simp at hc;subst hc;exact⟨fun wH=>Nat.lt_irrefl _ (hSep.cX _ wH),by show _<(w.heap.push _).size;simp⟩
  ·have Hw:p<rows.length:=by omega
   have hpm:p*r.n≤rows.length*r.n:=AOr _ hpn;have ANe:(p+vs.length)*r.n=p*r.n+vs.length*r.n:=AQm ..;have hnm:(rows.length+vs.length)*r.n=rows.length*r.n+vs.length*r.n:=AQm ..;rcases hcase with⟨h0,_⟩|⟨b,o,arr,ty,fr,rfl,hb,PQ,hu,rfl,sJ⟩
   ·omega
   have ACr:b<w.heap.size:=hSep.lt b (by simp);have iZ:=AJw (ρ:=ρ) L (i0:=i0) (z:=z) i1 i4 (by rw[i2];exact hzl) (by rw[i2];exact hn0) (by omega) b o rows.length cap p ⟨vb,vo,none⟩ vs.length vc css.flatten ri.flatten w Hw hm hle (by omega) Xy (by rw[i2];exact w6) (by rw[i2];exact wo) ACr sJ AWa (by rw[i2];exact AR7) AJ7 ACb;refine fin iZ fun e w' h=> ?_
   obtain⟨rfl,W,rW,hWo,hWt,hWu,rfl⟩:=h
   generalize grownCap w (rows.length+vs.length) cap (ρ.t 9)=gc at hgc rW⊢
   have hA:(css.flatten.take (p*r.n)).length=p*r.n:=by rw[ASS];omega
   have hB:(css.flatten.drop (p*r.n)).length=rows.length*r.n-p*r.n:=by rw[ASJ,w6]
   rw[i2]at rW
   generalize zU:(css.flatten.take (p*r.n)).toArray++Builtin.zeroCells z.cells (rows.length+vs.length-p)++Builtin.zeroCells z.cells (gc-(rows.length+vs.length))=ROW at rW
   have hRs:ROW.size=gc*r.n:=by
    rw[←zU];simp only[AUR,AUZ,ZN,hzl,hA,←AQm];congr 1;omega
   have hgm:(rows.length+vs.length)*r.n≤gc*r.n:=AOr _ hgc;have hbW:W.heap[w.heap.size]? =some (.cells ROW (ρ.t 9)):=by rw[rW];simp
   have hcA:BT W w.heap.size 0 (css.flatten.take (p*r.n)):=fun j v hj=>by
    have wI:=(ALO.1 hj).1;rw[Kp hbW,AQu,←Array.getElem?_toList,←zU];simp only[Array.toList_append,ANi];rw[AOh wI];exact hj
   obtain⟨KI,q1,q2,q3⟩:=iM (B:=css.flatten.drop (p*r.n)) (V:=ri.flatten) hbW (by omega) hcA;rw[hA,wo,←ANe,←i2,AQu,AQu]at q1 q3
   generalize qw:(W.setCells w.heap.size (p*i0.size) ri.flatten).setCells w.heap.size ((p+vs.length)*i0.size) (css.flatten.drop (p*i0.size))=w' at q1 q3
   have wC:=(((ui.take p).append X8).append (ui.drop p)).to (w':=w') hf;rw[kV]at wC;have wD:l'.length=rows.length+vs.length:=by rw[←kV];simp;omega
   refine⟨_,w.heap.size::(List.replicate l'.length ([]:AAs)).flatten,rfl,rfl,?_,?_,?_,fun c hc=> ?_,?_⟩
   ·have:=g_ (cap:=gc) (wC.at (S:=E.S) (d:=0) hf) q1 (by
     rw[AQt,AQt,←ui.rZ p hpn,←ui.rL p hpn,←i2];exact q3) (by rw[wD];exact hgc) (by rw[q2];omega) (Wa _)
    rw[lQ]at this⊢;rw[wD]at this;exact this
   ·simp
   ·intro c hc
    rw[lQ]at hc;simp at hc;subst hc;refine⟨fun wH=>Nat.lt_irrefl _ (hSep.cX _ wH),?_⟩;rw[←qw,DR,DR,rW];simp
   ·have YF:=hSep.cX c hc
    rw[←qw,DM _ _ _ _ _ (by omega),DM _ _ _ _ _ (by omega),rW];exact Ir YF
   ·rw[←qw]
    refine Grown.trans' (w':=W) ⟨hWo,hWt,hWu,by rw[rW];simp⟩ (Grown.trans' (Bw _ _ _ _) (Bw _ _ _ _))
end Go.Fw
end
section
namespace Go.Fw
open Go.M Go.Proofs Go.Shelf Go.RowKit Go.Lib
structure oM (P:Program) (ρ:Ren) (nm:String):Prop where
 mixed:P.follows .mixedOrders=true
 f24:P.funcs[ρ.f 24]? =some { Body2.n24 ρ with name:=nm }
 n24:(nm== "runtime.NumGoroutine")=false
 t0:P.underlying (ρ.t 0)=some (TypeDesc.tuple #[])
 a0:∀w,(isAgg (ρ.t 0)).run P w= .ok false w
 z0:∀w,(Go.sizeOf (ρ.t 0)).run P w= .ok 1 w
 v0:∀w,(zeroValue (ρ.t 0)).run P w= .ok (Value.tuple #[]) w
 t3:P.underlying (ρ.t 3)=some (TypeDesc.int IntKind.i64)
 a3:∀w,(isAgg (ρ.t 3)).run P w= .ok false w
 z3:∀w,(Go.sizeOf (ρ.t 3)).run P w= .ok 1 w
 v3:∀w,(zeroValue (ρ.t 3)).run P w= .ok (Value.int IntKind.i64 0) w
 t4:P.underlying (ρ.t 4)=some (TypeDesc.bool)
 a4:∀w,(isAgg (ρ.t 4)).run P w= .ok false w
 z4:∀w,(Go.sizeOf (ρ.t 4)).run P w= .ok 1 w
 v4:∀w,(zeroValue (ρ.t 4)).run P w= .ok (Value.bool false) w
 t24:P.underlying (ρ.t 24)=some (TypeDesc.slice (ρ.t 9))
 a24:∀w,(isAgg (ρ.t 24)).run P w= .ok false w
 z24:∀w,(Go.sizeOf (ρ.t 24)).run P w= .ok 1 w
 v24:∀w,(zeroValue (ρ.t 24)).run P w= .ok (Value.slice none 0 0) w
section
variable{P:Program} {ρ:Ren} {nm:String}
set_option maxHeartbeats 4000000 in
set_option maxRecDepth 1000000 in
theorem ABW(L:oM P ρ nm){k:Nat}(z9:∀w,(Go.sizeOf (ρ.t 9)).run P w= .ok k w)(ad:Option Addr)(n c i:Nat)(w:World)(hi:i≤n)(hnc:n≤c):
  Calls P (ρ.f 24) #[.slice ad n c,.int .i64 i,.int .i64 i] w fun e w' =>e= .returned (.slice ad n c)∧w' =w:=by
 have mixed:=L.mixed;have t0:=L.t0;have a0:=L.a0;have z0:=L.z0;have v0:=L.v0;have t3:=L.t3;have a3:=L.a3;have z3:=L.z3;have v3:=L.v3;have t4:=L.t4;have a4:=L.a4;have z4:=L.z4;have v4:=L.v4;have t24:=L.t24;have a24:=L.a24;have z24:=L.z24;have v24:=L.v24;have u0:=run_underlying L.t0;have u3:=run_underlying L.t3;have u4:=run_underlying L.t4;have IZ:=run_underlying L.t24
 go_enter L.f24,Body2.n24_ntmps ρ
 cases ad with
 |none=>
  go_wp2
  all_goals (go_ret;exact⟨rfl,rfl⟩)
 |some a=>
  obtain⟨ab,ao,asp⟩:=a
  go_wp2
  all_goals (go_ret;exact⟨rfl,rfl⟩)
theorem vU{w:World}{t elem ty:TypeId}{i0:TypeInfo}{z:Value}{b o n cap:Nat}{Z:List Value}(hu:P.underlying t=some (.slice elem))(hi:P.info? elem=some i0)(hz:i0.zero=some z)(hn:0<n)(hZ:(Builtin.zeroCells z.cells n).toList=Z)
  (oc:w.there b o Z.length) (h1:∀v∈Z,v.oneCell' =true):(Builtin.clear_ #[t] ty #[.slice (some ⟨b,o,none⟩) n cap]).run P w= .ok (.tuple #[]) (w.setCells b o Z):=by
 have qE:=run_storeCells_cells (P:=P) b o Z 0 w (by simpa using fun j hj=>(oc j hj).1) (by simpa using fun j hj=>(oc j hj).2) h1;rw[AQ2]at qE;obtain⟨n,rfl⟩:∃m,n=m+1:=⟨n-1,by omega⟩;simp[Builtin.clear_,run_underlying hu,zeroValue,typeInfo,hi,hz,hZ,qE]
set_option maxHeartbeats 4000000 in
set_option maxRecDepth 1000000 in
theorem AC9(L:oM P ρ nm){i0:TypeInfo}{z:Value}(t_:P.info? (ρ.t 9)=some i0)(hz:i0.zero=some z)(b off n c i j:Nat)(cs Z:List Value)(w:World)(hij:i<j)(hj:j≤n)(hnc:n≤c)
  (YF:cs.length=n*i0.size) (uV:BT w b off cs) (oc:w.there b off (n*i0.size)) (h1c:∀v∈cs,v.oneCell' =true) (hZ:(Builtin.zeroCells z.cells (j-i)).toList=Z) (hZl:Z.length=(j-i)*i0.size) (h1z:∀v∈Z,v.oneCell' =true):
  Calls P (ρ.f 24) #[.slice (some ⟨b,off,none⟩) n c,.int .i64 i,.int .i64 j] w fun e w' =>
   e= .returned (.slice (some ⟨b,off,none⟩) (i+(n-j)) c)∧ ∃W:World,W.heap=w.heap∧Grown w W∧w' =(W.setCells b (off+i*i0.size) (cs.drop (j*i0.size))).setCells b (off+(i+(n-j))*i0.size) Z:=by
 have mixed:=L.mixed;have t0:=L.t0;have a0:=L.a0;have z0:=L.z0;have v0:=L.v0;have t3:=L.t3;have a3:=L.a3;have z3:=L.z3;have v3:=L.v3;have t4:=L.t4;have a4:=L.a4;have z4:=L.z4;have v4:=L.v4;have t24:=L.t24;have a24:=L.a24;have z24:=L.z24;have v24:=L.v24;have u0:=run_underlying L.t0;have u3:=run_underlying L.t3;have u4:=run_underlying L.t4;have IZ:=run_underlying L.t24;have z9:∀w,(Go.sizeOf (ρ.t 9)).run P w= .ok i0.size w:=fun w=>by simp[sizeOf,typeInfo,t_]
 obtain⟨k,hk⟩:∃k,i0.size=k:=⟨_,rfl⟩;rw[hk]at YF oc hZl z9⊢;have e1:(n-j)*k=n*k-j*k:=AR8 ..;have e2:(j-i)*k=j*k-i*k:=AR8 ..;have e3:j*k≤n*k:=AOr _ hj;have e4:i*k≤j*k:=AOr _ (by omega);have e5:(i+(n-j))*k=i*k+(n-j)*k:=AQm ..;obtain⟨news,lU⟩:∃news,news=cs.drop (j*k):=⟨_,rfl⟩;have hlen:news.length=(n-j)*k:=by rw[lU,ASJ,YF];omega
 rw[←lU];obtain⟨A,hA,AND⟩:∃A:Addr,(if c=j then(some ⟨b,off,none⟩:Option Addr)else some ⟨b,off+j*k,none⟩)=some A∧Hid (∀t u,news[t]? =some u→w.drew.cell? (A.add t)=some u):=by
  by_cases h:c=j
  ·refine⟨⟨b,off,none⟩,by simp[h],fun t u hu=> ?_⟩
   have h0:news.length=0:=by rw[hlen,show n-j=0 by omega,Nat.zero_mul]
   rw[AT_.1 h0]at hu;simp at hu
  ·refine⟨⟨b,off+j*k,none⟩,by simp[h],fun t u hu=> ?_⟩
   rw[lU,ASk]at hu;rw[Addr.add_eq,AQz];exact uV _ u hu
 have s1:Hid (news.length=(n-j)*k):=hlen;have s2:Hid (∀u∈news,u.oneCell' =true):=fun u hu=>h1c u (by rw[lU]at hu;exact ARi hu)
 have s3:Hid (∀t,t<news.length→(w.drew.cell? ⟨b,off+i*k+t,none⟩).isSome=true∧w.drew.frozen? ⟨b,off+i*k+t,none⟩=false):=by
  intro t ht;rw[hlen]at ht;rw[AQz];exact oc _ (by omega)
 obtain⟨W1,hW1⟩:∃W1,W1=w.drew.setCells b (off+i*k) news:=⟨_,rfl⟩;have Ac4:∀ty,(Builtin.clear_ #[ρ.t 24] ty #[.slice (some ⟨b,off+(i+(n-j))*k,none⟩) (n-(i+(n-j))) (c-(i+(n-j)))]).run P W1= .ok (.tuple #[]) (W1.setCells b (off+(i+(n-j))*k) Z):=fun ty=>by
  rw[show n-(i+(n-j))=j-i by omega];refine vU L.t24 t_ hz (by omega) hZ (fun t ht=> ?_) h1z;rw[hZl]at ht;have h0:=oc ((i+(n-j))*k+t) (by omega);rw[←AQz]at h0;rw[hW1];refine⟨isSome_setCells b _ _ _ (fun q hq=> ?_) _ h0.1,by rw[World.frozen?_setCells];exact h0.2⟩;rw[hlen]at hq;have:=(oc (i*k+q) (by omega)).1;rw[←AQz]at this;exact this
 have hW:Hid (W1=w.drew.setCells b (off+i*k) news):=hW1;have hic:i≤c:=by omega
 have hjc:j≤c:=by omega
 have hjn:(i:Int)≤(j:Int):=by omega
 have fin:∃W:World,W.heap=w.heap∧Grown w W∧W1.setCells b (off+(i+(n-j))*k) Z=(W.setCells b (off+i*k) news).setCells b (off+(i+(n-j))*k) Z:=⟨w.drew,rfl,⟨rfl,rfl,rfl,APM _⟩,by rw[hW1]⟩;clear hW1 lU hlen e1 e2 e3 e4 e5 oc uV YF hZl
 go_enter L.f24,Body2.n24_ntmps ρ
 go_wp2_with fail
 go_region_law_o (refine step_append_room rfl (.tmp 22) (.tmp 25) (ρ.t 24) rfl (ρ.t 9) i0 k t24 t_ hk b off i c (by simp[Act.eval,Act.put]) A (n-j) (c-j) news (by simp[Act.eval,Act.put]) s1.out AND.out s2.out (by omega) s3.out ?_;rw[←hW.out])
 go_wp2
 go_ret
 exact⟨rfl,fin⟩
end
end Go.Fw
end
section
namespace Go.Fw
open Go.M Go.Proofs Go.Shelf Go.RowKit Go.Lib
theorem FE.take{w:World}{S:Nat→Prop}{d:Nat}{r:Ty}{css:List (List Value)}{rows:List r.D}{Fs:List AAs}(h:FE w S d r css rows Fs)(n:Nat):FE w S d r (css.take n) (rows.take n) (Fs.take n):=by
 refine⟨by simp[h.1],by simp[h.2.1],fun c hc=>h.2.2.1 c (ATe hc),fun i cs y G a b c=> ?_⟩;rw[ASn]at a b c;split at a
 ·rename_i hi
  rw[ALC hi]at b c;exact h.2.2.2 i cs y G a b c
 simp_all
theorem FE.drop{w:World}{S:Nat→Prop}{d:Nat}{r:Ty}{css:List (List Value)}{rows:List r.D}{Fs:List AAs}(h:FE w S d r css rows Fs)(n:Nat):FE w S d r (css.drop n) (rows.drop n) (Fs.drop n):=by
 refine⟨by simp[h.1],by simp[h.2.1],fun c hc=>h.2.2.1 c (ARi hc),fun i cs y G a b c=> ?_⟩;rw[ASk]at a b c;exact h.2.2.2 _ cs y G a b c
theorem zC{r:Ty}{css:List (List Value)}(hl:∀c∈css,c.length=r.n)(n:Nat)(hn:n≤css.length):css.flatten.take (n*r.n)=(css.take n).flatten:=by
 have h1:((css.take n).flatten).length=n*r.n:=by
  grind[Hq,List.mem_of_mem_take,List.length_take,Nat.min_eq_left]
 grind[List.take_append_drop,List.flatten_append,List.take_of_length_le]
theorem zx{r:Ty}{css:List (List Value)}(hl:∀c∈css,c.length=r.n)(n:Nat)(hn:n≤css.length):css.flatten.drop (n*r.n)=(css.drop n).flatten:=by
 have h1:((css.take n).flatten).length=n*r.n:=by
  grind[Hq,List.mem_of_mem_take,List.length_take,Nat.min_eq_left]
 grind[List.take_append_drop,List.flatten_append,List.drop_eq_nil_of_le]
theorem cm:∀{A B:List AAs},A.Sublist B→A.flatten.Sublist B.flatten
 |_,_,.slnil=> .slnil
 |_,_,.cons b h=>(cm h).trans (List.sublist_append_right _ _)
 |_,_,.cons_cons b h=>(List.Sublist.refl b).append (cm h)
theorem VE{Fs:List AAs}{p q:Nat}(hpq:p≤q):((Fs.take p++Fs.drop q).flatten).Sublist Fs.flatten:=by
 grind[List.drop_drop,List.drop_sublist,List.take_append_drop,cm]
@[reducible] def q6 (d:Nat) (r:Ty):A5:=⟨[(0,.c (.ref 0)),(1,.c (.v (.int .i64))),(2,.c (.v (.int .i64)))],[.sl d r]⟩
@[reducible] def xi (d:Nat) (r:Ty):A5:=⟨[(0,.c (.ref 1))],[.gone,.sl d r]⟩
theorem sC{P:Program}{T:Jm}{ρ:Ren}{nm:String}(hT:En P T)(L:oM P ρ nm){r:Ty}(Uj:T.NP (ρ.t 24) r=true)(hn0:0<r.n)(m:Nat):
  Wt P (ρ.f 24) ⟨q6 (m+1) r,xi (m+1) r,fun v=>(ABK v.1.2.1 v.1.2.2.1 v.2.1).map fun l=>(((),()),((),l,()))⟩:=by
 refine⟨by rfl,W_ L.f24 L.n24 (by kernel_rfl),?_⟩;intro E w v args u AUD hB hS hg;obtain⟨⟨u0,p,q,u1⟩,rows,u2⟩:=v;obtain⟨⟨⟨⟩,⟨⟩⟩,⟨⟩,l,⟨⟩⟩:=u;simp only[ALN]at hg;obtain⟨l',kV,hg⟩:=hg;simp only[AQD,true_and,AQc]at hg;subst hg;unfold ABK at kV;split at kV
 case isFalse=>cases kV
 rename_i hc;obtain⟨hp0,hpq,hqn⟩:=hc;have hq0:(0:Int)≤q:=Int.le_trans hp0 hpq;obtain⟨p,rfl⟩:=AUB hp0;obtain⟨q,rfl⟩:=AUB hq0;simp only[AMp,ALL]at kV;have AN9:p≤q:=by omega
 have ANX:q≤rows.length:=by omega
 obtain⟨⟨a0,h0,x0⟩,⟨a1,h1,x1⟩,⟨a2,h2,x2⟩,_⟩:=hS;have IP:args= #[a0,a1,a2]:=by
  grind
 subst IP;have e0:E.Hy 0=a0:=by
  have:VR E w [Bx.sl (m+1) r rows] (.ref 0 []) a0:=x0;grind[VR,C4,Option.some.inj]
 have e1:a1= .int .i64 (p:Int):=by
  have:VR E w [Bx.sl (m+1) r rows] (.v (.int .i64) (p:Int)) a1:=x1;simp only[VR,Rd,APx,AQc]at this;simp_all
 have e2:a2= .int .i64 (q:Int):=by
  have:VR E w [Bx.sl (m+1) r rows] (.v (.int .i64) (q:Int)) a2:=x2;simp only[VR,Rd,APx,AQc]at this;simp_all
 subst e1 e2;obtain⟨Fs,⟨hFl,hFb⟩,hSep⟩:=hB;obtain⟨F,rfl⟩:∃F,Fs=[F]:=by
  match Fs,hFl with
  |[F],_=>simp_all
 have ADC:=hFb 0 (.sl (m+1) r rows) F rfl rfl;obtain⟨_,ho⟩:=ADC;rw[e0]at ho;simp only[AQ1,ASC,ANI]at hSep;have ho0:=ho;obtain⟨ad,cap,css,Fs1,R1,rfl,hle,hd,hp1',hcase⟩:=nC ho;obtain⟨e,ti,hut,Uy,hs1,hby,hrow⟩:=Ka hT Uj;obtain⟨i0,z,i1,i2,i3,i4,i5,lj⟩:=Wc hT Uy hrow;have he:e=ρ.t 9:=by
  have:=L.t24.symm.trans hut;simp_all
 subst he;rw[hs1]at i2;have z9:∀w,(Go.sizeOf (ρ.t 9)).run P w= .ok r.n w:=fun w=>by simp[sizeOf,typeInfo,i1,i2]
 have hzl:z.cells.size=r.n:=by rw[←AR5,i5,Gm]
 have fin:∀{Q:Ending→World→Prop},Calls P (ρ.f 24) #[.slice ad rows.length cap,.int .i64 (p:Int),.int .i64 (q:Int)] w Q→
   (∀e w',Q e w'→ ∃v F',e= .returned v∧isSlice v=true∧Ow w' E.S (m+1) (.sl r) [v] l' F'∧F'.Nodup∧(∀c∈F',¬E.T c∧c<w'.heap.size)∧(∀c,E.T c→w'.heap[c]? =w.heap[c]?)∧Grown w w')→_:=fun h hq=>y9 (by omega) hSep h hq
 by_cases hpe:p=q
 ·subst hpe
  have hl:rows=l':=by simp_all
  subst hl;refine fin (ABW (k:=r.n) L z9 ad rows.length cap p w ANX hle) fun e w' h=> ?_
  obtain⟨rfl,rfl⟩:=h;exact⟨_,F,rfl,rfl,ho0,hSep.nodup,fun c hc=>⟨hSep.free c hc,hSep.lt c hc⟩,fun _ _=>rfl,⟨rfl,rfl,rfl,APM _⟩⟩
 have Hw:p<q:=by omega
 rcases hcase with⟨h0,_⟩|⟨b,o,arr,ty,fr,rfl,hb,PQ,hu,rfl,sJ⟩
 ·omega
 have hbT: ¬E.T b:=hSep.free b (by simp);have ACr:b<w.heap.size:=hSep.lt b (by simp);have we:=AS8.1 hSep.nodup;have w6:css.flatten.length=rows.length*r.n:=by rw[Hq hd.2.2.1,hd.1]
 have g1:(rows.length-q)*r.n=rows.length*r.n-q*r.n:=AR8 ..;have g2:(q-p)*r.n=q*r.n-p*r.n:=AR8 ..;have g3:q*r.n≤rows.length*r.n:=AOr _ ANX;have g4:p*r.n≤q*r.n:=AOr _ AN9;have g5:(p+(rows.length-q))*r.n=p*r.n+(rows.length-q)*r.n:=AQm ..;have g6:rows.length*r.n≤cap*r.n:=AOr _ hle;have hzr:Ej r≠[]:=fun h=>by simp_all
 have hZ:(Builtin.zeroCells z.cells (q-p)).toList=(List.replicate (q-p) (Ej r)).flatten:=by
  grind[Builtin.zeroCells,WG,Ej,Gm]
 have hZl:((List.replicate (q-p) (Ej r)).flatten).length=(q-p)*r.n:=by rw[G9,Gm]
 have hZ1:∀v∈(List.replicate (q-p) (Ej r)).flatten,v.oneCell' =true:=fun v hv=>by
  obtain⟨c,hc1,hc2⟩:=AQP.1 hv;rw[AQw hc1]at hc2;exact k_ (w:=w) (S:=E.S) (d:=0) (eX lj) v hc2
 have iZ:=AC9 (ρ:=ρ) L (i0:=i0) (z:=z) i1 i4 b o rows.length cap p q css.flatten _ w Hw ANX hle (by simp_all) sJ (by grind[UW,mk]) hd.one hZ (by simp_all) hZ1;refine fin iZ fun e w' h=> ?_
 obtain⟨rfl,W,rW,hWg,rfl⟩:=h;rw[i2];have hA:(css.flatten.take (p*r.n)).length=p*r.n:=by grind
 have hB:(css.flatten.drop (q*r.n)).length=(rows.length-q)*r.n:=by simp_all
 have hbW:W.heap[b]? =some (.cells arr ty fr):=by simp_all
 have hcA:BT W b o (css.flatten.take (p*r.n)):=BT.heap (fun j v hj=>by
  rw[ASn]at hj;split at hj
  ·exact sJ j v hj
  simp_all) rW
 obtain⟨KI,q1,q2,q3⟩:=iM (B:=(List.replicate (q-p) (Ej r)).flatten) (V:=css.flatten.drop (q*r.n)) hbW (by omega) hcA;rw[hA,hB,←g5]at q1 q3
 generalize qw:(W.setCells b (o+p*r.n) (css.flatten.drop (q*r.n))).setCells b (o+(p+(rows.length-q))*r.n) ((List.replicate (q-p) (Ej r)).flatten)=w' at q1 q3
 have cP:∀c,c≠b→w'.heap[c]? =w.heap[c]?:=fun c hc=>by grind[DM]
 have hcT:∀c,E.T c→c≠b:=fun c hc e=>hbT (e▸hc)
 have hra:=((hd.take p).append (hd.drop q)).mono (w':=w') (S':=E.S) (fun _ h=>h) (fun c hc=>cP c (hcT c (hSep.st c hc))) (fun c hc=>cP c (fun e=>we.1 (e▸(VE AN9).subset hc)));rw[kV]at hra;have wD:l'.length=p+(rows.length-q):=by grind
 refine⟨_,b::(Fs1.take p++Fs1.drop q).flatten,rfl,rfl,?_,?_,fun c hc=> ?_,fun c hc=>cP c (hcT c hc),?_⟩
 ·have YF:css.length=rows.length:=hd.1
  have:=g_ (cap:=cap) hra q1 (by
   rw[AQt,←zC hd.2.2.1 p (by omega),←zx hd.2.2.1 q (by omega)];intro j v hj;exact q3 j v (by grind)) (by omega) (by omega) (by simp_all)
  simp_all
 ·grind[List.nodup_cons,VE]
 ·have AX3:w'.heap.size=w.heap.size:=by grind[DR]
  rcases APr.1 hc with rfl|hc
  ·simp_all
  ·have hm:c∈b::Fs1.flatten:=AU9 _ ((VE AN9).subset hc)
   exact⟨hSep.free c hm,by rw[AX3];exact hSep.lt c hm⟩
 grind[Grown.trans',Bw]
end Go.Fw
end
section
namespace Go.Fw
open Go.M Go.Proofs Go.Shelf Go.RowKit Go.Lib
section
variable{P:Program} {ρ:Ren} {nm:String} {fv:Func}
theorem RG{t:TypeId}{n:Nat}(h:(P.info? t).map (·.size)=some n):∀w,(Go.sizeOf t).run P w= .ok n w:=fun w=>by
 obtain⟨i,hi,rfl⟩:=ALN.1 h;simp[sizeOf,typeInfo,hi]
theorem Yf{t:TypeId}{z:Value}(h:(P.info? t).bind (·.zero)=some z):∀w,(zeroValue t).run P w= .ok z w:=fun w=>by
 obtain⟨i,hi,hz⟩:=ALe.1 h;simp[zeroValue,typeInfo,hi,hz]
structure lW (P:Program) (ρ:Ren):Prop where
 t0:P.underlying (ρ.t 0)=some (TypeDesc.tuple #[])
 t3:P.underlying (ρ.t 3)=some (TypeDesc.int IntKind.i64)
 t4:P.underlying (ρ.t 4)=some (TypeDesc.bool)
 t24:P.underlying (ρ.t 24)=some (TypeDesc.slice (ρ.t 9))
 s0:(P.info? (ρ.t 0)).map (·.size)=some 1
 s3:(P.info? (ρ.t 3)).map (·.size)=some 1
 s4:(P.info? (ρ.t 4)).map (·.size)=some 1
 gu:(P.info? (ρ.t 24)).map (·.size)=some 1
 v0:(P.info? (ρ.t 0)).bind (·.zero)=some (Value.tuple #[])
 v3:(P.info? (ρ.t 3)).bind (·.zero)=some (Value.int IntKind.i64 0)
 v4:(P.info? (ρ.t 4)).bind (·.zero)=some (Value.bool false)
 v24:(P.info? (ρ.t 24)).bind (·.zero)=some (Value.slice none 0 0)
theorem lW.ins(h:lW P ρ)(hm:P.follows .mixedOrders=true)(f22:P.funcs[ρ.f 22]? =some { Body2.n22 ρ with name:=nm })(n22:(nm== "runtime.NumGoroutine")=false)(f29:P.funcs[ρ.f 29]? =some fv)(n29:(fv.name== "runtime.NumGoroutine")=false)
  (b29:fv.body.isNone=true) (e29:Extern.findNext fv=none) (x29:Extern.find fv=some (Extern.SlicesOverlaps.overlaps #[(ρ.t 24),(ρ.t 24)] #[(ρ.t 4)])):dd P ρ nm fv:=
 ⟨hm,f22,n22,f29,n29,b29,e29,x29,h.t0,run_isAgg_plain h.t0 rfl,RG h.s0,Yf h.v0,h.t3,run_isAgg_plain h.t3 rfl,RG h.s3,Yf h.v3,h.t4,run_isAgg_plain h.t4 rfl,RG h.s4,Yf h.v4,h.t24,run_isAgg_plain h.t24 rfl,RG h.gu,Yf h.v24⟩
theorem lW.del(h:lW P ρ)(hm:P.follows .mixedOrders=true)(f24:P.funcs[ρ.f 24]? =some { Body2.n24 ρ with name:=nm })(n24:(nm== "runtime.NumGoroutine")=false):oM P ρ nm:=
 ⟨hm,f24,n24,h.t0,run_isAgg_plain h.t0 rfl,RG h.s0,Yf h.v0,h.t3,run_isAgg_plain h.t3 rfl,RG h.s3,Yf h.v3,h.t4,run_isAgg_plain h.t4 rfl,RG h.s4,Yf h.v4,h.t24,run_isAgg_plain h.t24 rfl,RG h.gu,Yf h.v24⟩
@[reducible] def Jc (f22 f24 f29 f30 t24 t9:Nat):Ren:=⟨fun k=>if k=22 then f22 else if k=24 then f24 else if k=29 then f29 else if k=30 then f30 else k,fun k=>if k=24 then t24 else if k=9 then t9 else k,fun k=>k⟩
def AOS{T:Jm}(hT:En P T)(L:dd P ρ nm fv){r:Ty}{f:Nat}(hf:ρ.f 22=f)(Uj:T.NP (ρ.t 24) r=true)(hr:(r.flat&&(decide (mk r=1)&&decide (0<r.n)))=true)(g:(rO r).Cu (Option (xO r).V))
  (hg:∀v:(rO r).V,(rO r).un g v=(v7 v.1.2.1 v.1.2.2.1 v.2.1).map fun l=>(((),()),((),l,()))):SP P:=
 ⟨f,⟨rO r,xO r,(rO r).un g⟩,by
  simp only[ALo,ANR]at hr;rw[funext hg,←hf];grind[tp]⟩
def AYD{T:Jm}(hT:En P T)(L:oM P ρ nm){r:Ty}{f:Nat}(m:Nat)(hf:ρ.f 24=f)(Uj:T.NP (ρ.t 24) r=true)(hr:decide (0<r.n)=true)(g:(q6 (m+1) r).Cu (Option (xi (m+1) r).V))
  (hg:∀v:(q6 (m+1) r).V,(q6 (m+1) r).un g v=(ABK v.1.2.1 v.1.2.2.1 v.2.1).map fun l=>(((),()),((),l,()))):SP P:=
 ⟨f,⟨q6 (m+1) r,xi (m+1) r,(q6 (m+1) r).un g⟩,by
  rw[funext hg,←hf];exact sC hT L Uj (of_decide_eq_true hr) m⟩
end
end Go.Fw
end
