/- The framework, part 2: a checked interpreter of the model's code over abstract states; no claim is made here. -/
import Derived.Test.YtgaopeilfepjmaaGreatF0
import Derived.Below
import Derived.ChangeArms
import Derived.ChangeOld
import Derived.DataReads
import Derived.OrdersHeld
import Derived.Tactics
set_option linter.unusedVariables false
set_option linter.unusedSimpArgs false
set_option linter.unusedSectionVars false
section
namespace Go.Fw
def alive(l:List BP)(i:Nat):Bool:=
 match l[i]? with
 |some .gone=>false
 |some _=>true
 |none=>false
def AP.Gw(l:List BP):AP→Bool
 | .sl s _=>s
 | .dz _=>false
 | .UA _ _=>false
 | .Xw _ _ _=>false
 | .gU _ _=>false
 | .ref i=>decide (i<l.length)
 | .ptr i _=>alive l i
 | .fn _ Fj=>Fj.all (alive l)
 |_=>true
def XP.Gw(l:List BP):XP→Bool
 | .c p=>p.Gw l
 | .agg q=>q.all (AP.Gw l)
 | .LI q=>q.all fun| .inl p=>p.Gw l| .inr q=>q.all (AP.Gw l)
 | .row _=>false
def BP.Gw(l:List BP):BP→Bool
 | .mem q=>q.all (AP.Gw l)
 |_=>true
def kinds:List BP→List BP→Bool
 |[],_=>true
 | .mem _::l,.mem _::m=>kinds l m
 | .sl _ r::l,.sl _ q::m=>decide (r=q)&&kinds l m
 | .mem _::l,.gone::m=>kinds l m
 | .sl _ _::l,.gone::m=>kinds l m
 |_,_=>false
def ZW(l:List BP):List (Nat×XP)→Bool
 |[(0,p)]=>p.Gw l
 |_=>false
def Sf.ok(c:Sf):Bool:=
 kinds c.ins.C6 c.outs.C6&&ZW c.outs.C6 c.outs.Bh&&c.outs.C6.all (BP.Gw c.outs.C6)
theorem RV:∀{l m:List BP},kinds l m=true→l.length≤m.length∧ ∀(i:Nat) p,l[i]? =some p→p≠ .gone∧ ∀d r,m[i]? =some (.sl d r)→ ∃d',p= .sl d' r
 |[],m,_=>⟨by simp,fun i p h=>by simp at h⟩
 | .gone::l,[],h=>by simp[kinds]at h
 | .gone::l,_::_,h=>by simp[kinds]at h
 | .mem _::l,[],h=>by simp[kinds]at h
 | .sl _ _::l,[],h=>by simp[kinds]at h
 | .mem q::l,.mem _::m,h=>by
  obtain⟨h1,h2⟩:=RV (l:=l) (m:=m) (by simpa[kinds]using h);grind
 | .mem q::l,.gone::m,h=>by
  obtain⟨h1,h2⟩:=RV (l:=l) (m:=m) (by simpa[kinds]using h);grind
 | .mem q::l,.sl _ _::m,h=>by simp[kinds]at h
 | .sl d0 r0::l,.sl _ q::m,h=>by
  simp only[kinds,AEE,AEe]at h;obtain⟨h1,h2⟩:=RV (l:=l) (m:=m) h.2;grind
 | .sl d0 r0::l,.gone::m,h=>by
  obtain⟨h1,h2⟩:=RV (l:=l) (m:=m) (by simpa[kinds]using h);grind
 | .sl _ _::l,.mem _::m,h=>by simp[kinds]at h
def SO(P:Program)(f:Nat)(c:Sf):Prop:=
 c.ok=true∧(∀args w,(callFunc f args).run P w= .ok (.enter f args) w)∧
 ∀(E:Env) (w:World) (v:c.ins.V) (args:Array Value) (u:c.outs.V),args.size=c.ins.Bh.length→
  BR E w (EM.mk id c.ins.C6 v.2) (EM.mk id c.ins.C6 v.2) []→G2 E w (EM.mk id c.ins.C6 v.2) id c.ins.Bh v.1 args.toList→c.g v=some u→
  Calls P f args w fun e w' => ∃x E',e= .returned x∧Wz E w E' w'∧BR E' w' (EM.mk id c.outs.C6 u.2) (EM.mk id c.outs.C6 u.2) []∧
   G2 E' w' (EM.mk id c.outs.C6 u.2) id c.outs.Bh u.1 [x]∧ ∀i,i<c.ins.C6.length→alive c.outs.C6 i=true→E'.Du i=E.Du i∧E'.EK i=E.EK i
theorem Yh:∀x:AV,DB [] x=x
 | .ref b (s::p)=>by rfl
 | .ref b []=>rfl
 | .win b (s::p) i n=>by rfl
 | .win b [] i n=>rfl
 | .E7 b (s::p) i sz j=>by rfl
 | .E7 b [] i sz j=>rfl
 | .v _ _=>rfl
 | .sl _ _ _=>rfl
 | .nil=>rfl
 | .EN _ _=>rfl
 | .Jj _ _ _ _=>rfl
 | .fn _ _=>rfl
 | .gU _ _=>rfl
 | .l5=>rfl
 | .undef=>rfl
theorem UG:DB []=id:=funext Yh
theorem gh:∀x:XV,O1 [] x=x
 | .c x=>by simp[O1,Yh]
 | .agg l=>by simp[O1,UG]
 | .LI l=>by
  simp only[O1,UG];congr 1
  conv=>rhs;rw[←List.map_id l]
  apply AG2;intro x _;cases x with
  |inl x=>simp
  |inr q=>simp
theorem fk(m:Jt)(σ:St):(σ.T8 m).tm=σ.tm.map (O1 m):=by
 cases m with
 |nil=>
  simp only[St.T8];have:O1 []=id:=funext gh;simp_all
 |cons _ _=>rfl
theorem mj(m:Jt)(σ:St):(σ.T8 m).bx=σ.bx.map (Bx.map (DB m)):=by
 cases m with
 |nil=>grind[St.T8,UG,Uc]
 |cons _ _=>
  rfl
theorem WZ(f:AV→AV):∀(m:Jt) (bx:List Bx),BL (bx.map (Bx.map f)) m=(BL bx m).map (Bx.map f)
 |[],_=>rfl
 |none::m,bx=>by simp only[BL];exact WZ f m bx
 |some b::m,bx=>by
  simp only[BL];rw[←WZ f m (bx.set b .dead),List.map_set];rfl
theorem LL:∀{m:Jt} {bx:List Bx} {b:Nat},some b∉m→(BL bx m)[b]? =bx[b]?
 |[],_,_,_=>rfl
 |none::m,bx,b,h=>by simp only[BL];exact LL (by simp_all)
 |some c::m,bx,b,h=>by
  simp only[BL];rw[LL (by simp_all),AFx (by grind)]
theorem ng{E E':Env}{w w':World}{vw vw':List Bx}{m:Jt}(k:M8 E w vw E' w' (BL vw' m))
  (hb:∀b d' r BG,some b∈m→vw'[b]? =some (.sl d' r BG)→ ∃d rows,vw[b]? =some (.sl d r rows)∧List.length BG=List.length rows∧E'.EK b=E.EK b) (hlen:vw.length≤vw'.length) {x:AV} {v:Value} (h:VR E w vw x v):VR E' w' vw' (DB m x) v:=by
 have h1:=C2 k h;have W_:∀{b'},some b'∉m→(BL vw' m)[b']? =vw'[b']?:=fun e=>LL e
 have get:∀{b'},b'<vw.length→ ∃B,vw'[b']? =some B:=fun hl=>⟨_,ADU (by omega)⟩
 cases x with
 |v t x=>exact h1
 |sl s r x=>exact h1
 |nil=>exact h1
 |EN c j=>exact⟨by simpa[Fl]using h1.1,h1.2⟩
 |Jj s r x j=>exact h1
 |fn f Fj=>exact⟨fun c hc=>by simpa[Fl]using h1.1 c hc,h1.2⟩
 |gU f rows=>exact h1
 |l5=>exact h1
 |undef=>trivial
 |ref c p=>
  have other:some c∉m→VR E' w' vw' (.ref c p) v:=fun e=>by
   grind[VR]
  cases p with
  |nil=>
   simp only[DB];by_cases e:some c∈m
   ·simp only[VR]at h⊢
    obtain⟨h0,h⟩:=h;refine⟨h0,?_⟩;cases hc:vw[c]? with
    |none=>simp_all
    |some B=>
     obtain⟨B',Nt⟩:=get (ADa.1 hc).1;rw[Nt];cases B' with
     |mem cs=>trivial
     |dead=>trivial
     |sl d' r BG=>
      obtain⟨d,rows,e1,e2,e3⟩:=hb c d' r BG e Nt;rw[e1]at h;refine⟨by simp[BU],⟨_,rfl⟩,?_⟩;grind[Bc]
   simp_all
  |cons s p=>
   simp only[DB];split
   ·trivial
   simp_all
 |win c p off n=>
  have other:some c∉m→VR E' w' vw' (.win c p off n) v:=fun e=>by
   grind[VR]
  cases p with
  |nil=>
   simp only[DB];by_cases e:some c∈m
   ·simp only[VR]at h⊢
    obtain⟨h0,h⟩:=h;refine⟨h0,?_⟩;cases hc:vw[c]? with
    |none=>simp_all
    |some B=>
     obtain⟨B',Nt⟩:=get (ADa.1 hc).1;rw[Nt];cases B' with
     |mem cs=>trivial
     |dead=>trivial
     |sl d' r BG=>
      obtain⟨d,rows,e1,e2,e3⟩:=hb c d' r BG e Nt;rw[e1]at h;obtain⟨_,q,ys,a,len,cap,g1,g2,g3,g4⟩:=h;simp only[DK,ADS,AEY]at g1;obtain⟨rfl,g1⟩:=g1;obtain rfl:=AFq g1;rw[Bc]at g3;exact⟨by simp[BU],r,BG,a,len,cap,rfl,by omega,by grind[Bc],g4⟩
   simp_all
  |cons s p=>
   simp only[DB];split
   ·trivial
   simp_all
 |E7 c p i sz j=>
  have other:some c∉m→VR E' w' vw' (.E7 c p i sz j) v:=fun e=>by
   grind[VR]
  cases p with
  |nil=>
   simp only[DB];by_cases e:some c∈m
   ·simp only[VR]at h⊢
    obtain⟨h0,h⟩:=h;refine⟨h0,?_⟩;cases hc:vw[c]? with
    |none=>simp_all
    |some B=>
     obtain⟨B',Nt⟩:=get (ADa.1 hc).1;rw[Nt];cases B' with
     |mem cs=>trivial
     |dead=>trivial
     |sl d' r BG=>
      obtain⟨d,rows,e1,e2,e3⟩:=hb c d' r BG e Nt;rw[e1]at h;obtain⟨_,q,ys,bb,o,len,cap,g1,g2,g3,g4⟩:=h;simp only[DK,ADS,AEY]at g1;obtain⟨rfl,g1⟩:=g1;obtain rfl:=AFq g1;rw[Bc]at g3;exact⟨by simp[BU],r,BG,bb,o,len,cap,rfl,by omega,by grind[Bc],g4⟩
   simp_all
  |cons s p=>
   simp only[DB];split
   ·trivial
   simp_all
theorem nW{E E':Env}{w w':World}{vw vw':List Bx}{m:Jt}(k:∀x v,VR E w vw x v→VR E' w' vw' (DB m x) v){x:XV}{v:Value}(h:XR E w vw x v):XR E' w' vw' (O1 m x) v:=by
 cases x with
 |c x=>exact k x v h
 |agg l=>
  obtain⟨vs,rfl,RQ⟩:=h;exact⟨vs,rfl,A5.GQ _ k RQ⟩
 |LI l=>
  obtain⟨vs,rfl,RQ⟩:=h;refine⟨vs,rfl,A5.GQ _ (fun x v hx=> ?_) RQ⟩;cases x with
  |inl x=>exact k x v hx
  |inr q=>
   obtain⟨us,rfl,hus⟩:=hx;exact⟨us,rfl,A5.GQ _ k hus⟩
def GR(ren:Nat→Nat):Nat→List Bx→List Bx→List Bx
 |_,[],bx=>bx
 |i,B::l,bx=>GR ren (i+1) l (if ren i<bx.length then bx.set (ren i) B else bx++[B])
theorem Z2(ren:Nat→Nat):∀(i:Nat) (l:List BP) (x:EM.V l) (bx:List Bx),Ur ren i l x bx=GR ren i (EM.mk ren l x) bx
 |_,[],_,_=>rfl
 |i,p::l,x,bx=>by simp only[Ur,EM.mk,GR];exact Z2 ren (i+1) l x.2 _
structure je (ren:Nat→Nat) (M N:Nat):Prop where
 lt:∀k,k<M→ren k<N
 eq:∀k,M≤k→ren k=N+(k-M)
 inj:∀k k',k<M→k'<M→ren k=ren k'→k=k'
theorem je.ABc{ren:Nat→Nat}{M N:Nat}(h:je ren M N){k k':Nat}(e:ren k=ren k'):k=k':=by
 by_cases h1:k<M
 ·by_cases h2:k'<M
  ·exact h.inj k k' h1 h2 e
  ·have:=h.lt k h1
   have:=h.eq k' (by omega);omega
 ·by_cases h2:k'<M
  ·have:=h.lt k' h2
   have:=h.eq k (by omega);omega
  ·have:=h.eq k (by omega)
   have:=h.eq k' (by omega);omega
theorem XI{ren:Nat→Nat}{M N:Nat}(h:je ren M N):∀{l:List Bx} {i:Nat} {bx:List Bx},bx.length=N+(i-M)→
  (GR ren i l bx).length=N+(i+l.length-M)∧(∀(j:Nat) B,l[j]? =some B→(GR ren i l bx)[ren (i+j)]? =some B)∧
   ∀n,n<bx.length→(∀j,j<l.length→ren (i+j)≠n)→(GR ren i l bx)[n]? =bx[n]?
 |[],i,bx,hl=>⟨by grind[GR],fun j B hj=>by simp_all,fun _ _ _=>rfl⟩
 |B::l,i,bx,hl=>by
  simp only[GR];have YS:(if ren i<bx.length then bx.set (ren i) B else bx++[B]).length=N+(i+1-M):=by
   split
   ·rename_i RF
    by_cases hi:i<M
    ·grind
    ·have:=h.eq i (by omega);omega
   ·rename_i RF
    by_cases hi:i<M
    ·have:=h.lt i hi;omega
    grind
  have Uj:(if ren i<bx.length then bx.set (ren i) B else bx++[B])[ren i]? =some B:=by
   split
   ·simp_all
   ·rename_i RF
    by_cases hi:i<M
    ·grind
    ·have:=h.eq i (by omega)
     grind
  obtain⟨q1,q2,q3⟩:=XI h (l:=l) YS;refine⟨by grind,fun j C hj=> ?_,fun n hn aB=> ?_⟩
  ·cases j with
   |zero=>
    simp at hj;subst hj;exact(q3 (ren i) (ADa.1 Uj).1 (fun j hj e=>by have:=h.ABc e;omega)).trans Uj
   |succ j=>
    grind
  ·have ADr:=aB 0 (by simp)
   rw[AGo]at ADr;rw[q3 n (by omega) (fun j hj=>by have:=aB (j+1) (by simp_all);grind)];grind
theorem WO{ren:Nat→Nat}{M N:Nat}(h:je ren M N){E:Env}{w:World}{vw:List Bx}:∀{l:List Bx} {i:Nat} {bx:List Bx} {Fs:List AAF},bx.length=N+(i-M)→(∀k,i≤k→k<M→bx[ren k]? =some .dead)→
  Fs.length=l.length→(∀(j:Nat) B F,l[j]? =some B→Fs[j]? =some F→dN E w vw (ren (i+j)) B F)→BR E w vw bx Fs.flatten→BR E w vw (GR ren i l bx) []
 |[],i,bx,Fs,hl,hd,hF,hB,iw=>by
  grind[List.eq_nil_of_length_eq_zero,GR]
 |B::l,i,bx,F::Fs,hl,hd,hF,hB,iw=>by
  simp only[GR];have hBi:=hB 0 B F rfl rfl;rw[AGo]at hBi;have next:∀{K6},K6.length=N+(i+1-M)→(∀k,i+1≤k→k<M→K6[ren k]? =some .dead)→BR E w vw K6 Fs.flatten→BR E w vw (GR ren (i+1) l K6) []:=by
   intro K6 h1 h2 h3;refine WO h h1 h2 (by simp_all) (fun j C G hC hG=> ?_) h3;have:=hB (j+1) C G (by simp_all) (by simp_all);grind
  rw[AGL]at iw;by_cases hi:i<M
  ·have RF:=h.lt i hi
   rw[ADW (by omega)];refine next (by grind) (fun k hk1 hk2=> ?_) (iw.put (hd i (AF2 _) hi) hBi);rw[AFx (fun e=>by have:=h.ABc e;omega)];grind
  ·have heq:=h.eq i (by omega)
   rw[AEK (by omega)];have e1:ren i=bx.length:=by omega
   rw[e1]at hBi;exact next (by grind) (fun k hk1 hk2=>by omega) (iw.push hBi)
 |_::_,_,_,[],_,_,hF,_,_=>by simp_all
structure gy (E' E2:Env) (l:List BP) (u:EM.V l) (ot:List Bx) (ren:Nat→Nat):Prop where
 ids:∀i,alive l i=true→E2.Du (ren i)=E'.Du i∧E2.EK (ren i)=E'.EK i
 bx:∀(i:Nat) p,l[i]? =some p→ ∃y,(EM.mk id l u)[i]? =some (p.mk id y)∧ot[ren i]? =some (p.mk ren y)
 S:E2.S=E'.S
theorem VY(ren:Nat→Nat):∀{l:List BP} {u:EM.V l} {i:Nat} {p:BP},l[i]? =some p→ ∃y:p.V,(EM.mk id l u)[i]? =some (p.mk id y)∧(EM.mk ren l u)[i]? =some (p.mk ren y)
 |q::l,u,0,p,h=>by
  simp at h;subst h;exact⟨u.1,rfl,rfl⟩
 |q::l,u,i+1,p,h=>by
  obtain⟨y,h1,h2⟩:=VY ren (u:=u.2) (i:=i) (by simpa using h);grind[EM.mk]
 |[],_,_,_,h=>by simp at h
theorem NO(ren:Nat→Nat):∀{l:List BP} {u:EM.V l},(EM.mk ren l u).length=l.length
 |[],_=>rfl
 |_::l,u=>by simp[EM.mk,NO ren (l:=l)]
section
variable{E' E2:Env} {w:World} {l:List BP} {u:EM.V l} {ot:List Bx} {ren:Nat→Nat} (r:gy E' E2 l u ot ren)
include r
omit r in
theorem gB{i:Nat}(h:alive l i=true):∃p,l[i]? =some p∧p≠ .gone:=by
 unfold alive at h;cases e:l[i]? with
 |none=>rw[e]at h;cases h
 |some p=>
  refine⟨p,rfl,fun hp=> ?_⟩;rw[e,hp]at h;cases h
theorem kh{p:AP}{y:p.V}{v:Value}(KZ:p.Gw l=true)(h:VR E' w (EM.mk id l u) (p.mk id y) v):VR E2 w ot (p.mk ren y) v:=by
 cases p with
 |v t=>exact h
 |sl s q=>
  simp only[AP.Gw]at KZ;subst KZ;simp only[AP.mk,VR,AGF]at h⊢;rw[r.S];omega
 |nil=>exact h
 |ref i=>
  simp only[AP.Gw,AEe]at KZ;obtain⟨p,hp⟩:∃p,l[i]? =some p:=⟨_,ADU KZ⟩;obtain⟨z,z1,z2⟩:=r.bx i p hp;simp only[AP.mk,VR,id]at h⊢;refine⟨h.1,?_⟩;have h2:=h.2;rw[z1]at h2;rw[z2];cases p with
  |mem q=>trivial
  |gone=>trivial
  |sl d q=>
   have hid:=(r.ids i (by simp[alive,hp])).2;grind[BP.mk]
 |ptr i j=>
  simp only[AP.Gw]at KZ;obtain⟨p,hp,hg⟩:=gB KZ;obtain⟨z,z1,z2⟩:=r.bx i p hp;refine⟨(ADa.1 z2).1,?_⟩;rw[(r.ids i KZ).1];exact h.2
 |dz q=>simp[AP.Gw]at KZ
 |UA i sz=>simp[AP.Gw]at KZ
 |Xw i sz j=>simp[AP.Gw]at KZ
 |gU f rs=>simp[AP.Gw]at KZ
 |fn f Fj=>
  simp only[AP.Gw,AGT]at KZ;obtain⟨h1,h2⟩:=h;refine⟨fun b hb=> ?_,?_⟩
  ·obtain⟨i,hi,rfl⟩:=List.mem_map.1 hb
   obtain⟨p,hp,_⟩:=gB (KZ i hi);obtain⟨z,_,z2⟩:=r.bx i p hp;grind
  ·rw[h2,AG7]
   congr 2
   rw[AG7];apply AG2;intro i hi;simp only[Function.comp,id,(r.ids i (KZ i hi)).1]
 |any=>trivial
theorem bQ:∀{q:List AP} {y:Ss.V q} {vs:List Value},q.all (AP.Gw l)=true→X7 E' w (EM.mk id l u) (Ss.mk id q y) vs→X7 E2 w ot (Ss.mk ren q y) vs
 |[],_,[],_,_=>trivial
 |[],_,_::_,_,h=>h.elim
 |p::q,y,[],_,h=>h.elim
 |p::q,y,v::vs,KZ,h=>by
  simp only[AGV,AEE]at KZ;exact⟨kh r KZ.1 h.1,bQ KZ.2 h.2⟩
theorem h_:∀{q:List (AP ⊕ List AP)} {y:TA.V q} {vs:List Value},(q.all fun| .inl p=>p.Gw l| .inr q=>q.all (AP.Gw l))=true→A5 (TR E' w (EM.mk id l u)) (TA.mk id q y) vs→A5 (TR E2 w ot) (TA.mk ren q y) vs
 |[],_,[],_,_=>trivial
 |[],_,_::_,_,h=>h.elim
 | .inl p::q,y,[],_,h=>h.elim
 | .inr p::q,y,[],_,h=>h.elim
 | .inl p::q,y,v::vs,KZ,h=>by
  simp only[AGV,AEE]at KZ;exact⟨kh r KZ.1 h.1,h_ KZ.2 h.2⟩
 | .inr p::q,y,v::vs,KZ,h=>by
  simp only[AGV,AEE]at KZ;obtain⟨us,e,hus⟩:=h.1;exact⟨⟨us,e,bQ r KZ.1 hus⟩,h_ KZ.2 h.2⟩
theorem xW{p:XP}{y:p.V}{v:Value}(KZ:p.Gw l=true)(h:XR E' w (EM.mk id l u) (p.mk id y) v):XR E2 w ot (p.mk ren y) v:=by
 cases p with
 |c p=>exact kh r KZ h
 |agg q=>
  obtain⟨vs,e,RQ⟩:=h;exact⟨vs,e,bQ r KZ RQ⟩
 |row q=>simp[XP.Gw]at KZ
 |LI q=>
  obtain⟨vs,e,RQ⟩:=h;exact⟨vs,e,h_ r KZ RQ⟩
theorem zN{i:Nat}{p:BP}{y:p.V}{F:AAF}(hi:l[i]? =some p)(KZ:p.Gw l=true)(h:dN E' w (EM.mk id l u) i (p.mk id y) F):dN E2 w ot (ren i) (p.mk ren y) F:=by
 cases p with
 |mem q=>
  obtain⟨h1,arr,ty,fr,h2,h3,h4⟩:=h;have hid:=(r.ids i (by simp[alive,hi])).1;exact⟨by simp_all,arr,ty,fr,by simp_all,h3,bQ r KZ h4⟩
 |sl d q=>
  obtain⟨h1,h2⟩:=h;refine⟨h1,?_⟩;rw[(r.ids i (by simp[alive,hi])).2,r.S];omega
 |gone=>exact h
end
end Go.Fw
end
section
namespace Go.Fw
theorem hD{s:Bl}{N:Nat}{m0 m:Jt}{tm:List XV}{bx:List Bx}{x:s.V}(e:s.fit N m0 tm bx=some (x,m)):∀(k:Nat) p,s.C6[k]? =some p→p≠ .gone→ ∃b B,m[k]? =some (some b)∧bx[b]? =some B∧B≠ .dead∧
  ∀d r,p= .sl d r→ ∃d' rows,B= .sl d' r rows:=by
 simp only[Bl.fit,ADc,ADV]at e;obtain⟨m1,e1,m2,e2,a,e3,c,e4,e5⟩:=e;cases e5;obtain⟨q1,q2⟩:=Mx (ren:=id) e4;grind
theorem oC(n:Nat):bj (List.replicate n none):=fun i j b h=>by
 grind
theorem l3{w:World}{B B':Nat→Prop}{w':World}{r:Ty}{v:Value}{x y:List r.D}(h:Rd w B (.sl r) [v] x)(h':Rd w' B' (.sl r) [v] y):y.length=x.length:=by
 simp only[Rd]at h h';grind
section
variable{Y:Type} {P:Program} {E:Env} {σ:St} {a:Act} {w:World} {k:K Y} {y:Y}
theorem eX{E' E2:Env}{l:List BP}{u:EM.V l}{ot:List Bx}{ren:Nat→Nat}(r:gy E' E2 l u ot ren):∀{sl:List (Nat×XP)} {z:DC.V sl} {x:Value},
  ZW l sl=true→G2 E' w (EM.mk id l u) id sl z [x]→XR E2 w ot (Wt sl z ren) x
 |[(0,p)],z,x,KZ,h=>by
  obtain⟨⟨v,hv,hx⟩,_⟩:=h;simp at hv;subst hv;exact xW r KZ hx
 |[],_,_,KZ,_=>by simp[ZW]at KZ
 |(_+1,_)::_,_,_,KZ,_=>by simp[ZW]at KZ
 |(0,_)::_::_,_,_,KZ,_=>by simp[ZW]at KZ
def Wg(c:Sf)(xs:List XV)(σ:St):AAF:=
 match c.ins.fit σ.bx.length c.ins.m0 xs (c.ins.opens σ.bx)with
 |some (_,m)=>m.filterMap id
 |none=>[]
theorem ga(h:Rel E σ a w)(s:Bl):∃E',Rel E' { σ with bx:=s.opens σ.bx } a w∧LV [] E σ.bx w E' (s.opens σ.bx) w∧(∀(i:Nat) d r,s.C6[i]? =some (.sl d r)→E'.EK (σ.bx.length+i)= .slice none 0 0)∧
  (∀x v,XR E w σ.bx x v→XR E' w (s.opens σ.bx) x v):=by
 let E':Env:={ E with EK:=fun k=>if k<σ.bx.length then E.EK k else .slice none 0 0 }
 have hlen:σ.bx.length≤(s.opens σ.bx).length:=by simp[Bl.opens]
 have hold:∀b,b<σ.bx.length→(s.opens σ.bx)[b]? =σ.bx[b]?:=fun b hb=>by grind[Bl.opens,List.getElem?_append_left]
 have YR:∀b,b<σ.bx.length→E'.EK b=E.EK b:=fun b hb=>by grind
 have keep:M8 E w σ.bx E' w (s.opens σ.bx):=
  ⟨hlen,fun _ _=>rfl,fun _ h=>h,fun _ h=>h,h.bx.st,fun _ _=>rfl,fun b d r rows hb e=>⟨d,rows,by simp_all,fun p hp q ys hg=>⟨hp,⟨ys,hg,rfl⟩,fun hh he=>by simp_all⟩⟩⟩
 obtain⟨Fs,⟨f1,f2⟩,f3⟩:=h.bx;refine⟨E',⟨h.ID,h.tm.imp fun _ _ hx=>JS keep hx,?_⟩,?_,fun i d r hi=>by grind,fun x v hx=>JS keep hx⟩
 ·refine⟨Fs++List.replicate s.C6.length [],⟨by simp[Bl.opens,f1],fun n B F hB hF=> ?_⟩,?_⟩
  ·by_cases hn:n<σ.bx.length
   ·rw[hold n hn]at hB
    rw[AFJ (by omega)]at hF;have:=f2 n B F hB hF;cases B with
    |mem cs=>
     obtain⟨rfl,arr,ty,fr,a1,a2,a3⟩:=this;exact⟨rfl,arr,ty,fr,a1,a2,a3.imp fun _ _ hv=>C2 keep hv⟩
    |sl d r rows=>exact⟨this.1,by rw[YR n hn];exact this.2⟩
    |dead=>exact this
   ·rw[AFU (by omega)]at hF
    have hF':F=[]:=AGk (AFB hF);subst hF';simp only[Bl.opens]at hB;rw[AFU (by omega),AFr,ADV]at hB;obtain⟨p,_,rfl⟩:=hB;have hh:E'.EK n= .slice none 0 0:=by grind
    cases p with
    |mem q=>rfl
    |gone=>rfl
    |sl d r=>exact⟨by omega,by rw[hh];exact cJ⟩
  ·have:(Fs++List.replicate s.C6.length []).flatten=Fs.flatten:=by simp
   rw[this];exact⟨f3.nodup,f3.free,f3.lt,f3.st,f3.W3⟩
 ·refine⟨⟨fun _ h=>h,fun _ h=>h,fun _ h=> .inl h,fun _ h=> .inl h,fun _ _=>rfl,rfl,rfl,rfl,AF2 _⟩,hlen,fun b hb=>⟨rfl,YR b hb⟩,fun b hb=> ?_,fun n B B' _ hB Nt hd=> ?_⟩
  ·grind
  ·rw[hold n (ADa.1 hB).1,hB]at Nt
   cases Nt;exact⟨Pl.refl hd,fun _ _=>rfl⟩
theorem LV.after{t:AAF}{E E' ow:Env}{bx K6 AB4:List Bx}{w w':World}(h:LV [] E bx w E' K6 w)(hb:∀b,b<bx.length→K6[b]? =bx[b]?)(k:LV t E' K6 w ow AB4 w'):LV t E bx w ow AB4 w':=
 ⟨h.base.trans k.base,AGG h.len k.len,fun b RF=>⟨(k.ids b (AF3 RF h.len)).1.trans (h.ids b RF).1,(k.ids b (AF3 RF h.len)).2.trans (h.ids b RF).2⟩,fun b hd=>k.dead b (h.dead b hd),fun n B B' hn hB Nt hd=>by
  have RF:=(ADa.1 hB).1;obtain⟨k1,k2⟩:=k.frame n B B' hn (by simp_all) Nt hd;refine⟨k1,fun c hc=>k2 c ?_⟩;cases B with
  |mem cs=>simp only[kH]at hc⊢;rw[(h.ids n RF).1];omega
  |sl d r rows=>simp only[kH]at hc⊢;rw[(h.ids n RF).2];omega
  |dead=>exact hc⟩
def v_(c:Sf)(N:Nat)(xs:List XV)(σ:St)(k:K Y):Option Y:=
 match c.ins.fit N c.ins.m0 xs σ.bx with
 |some (v,m)=>(c.g v).bind fun u=>
  let ren:=TG m σ.bx.length
  let σ1:=σ.T8 m
  k (Wt c.outs.Bh u.1 ren) { σ1 with bx:=Ur ren 0 c.outs.C6 u.2 (BL σ1.bx m) }
 |none=>none
def lX(c:Sf)(N:Nat)(xs:List XV)(σ:St):AAF:=
 match c.ins.fit N c.ins.m0 xs σ.bx with
 |some (_,m)=>m.filterMap id
 |none=>[]
theorem kL{f:Nat}{c:Sf}(hc:SO P f c)(h:Rel E σ a w){N0:Nat}(nr:∀(i:Nat) d r,c.ins.C6[i]? =some (.sl d r)→E.EK (N0+i)= .slice none 0 0){xs:List XV}{vs:List Value}(hxs:A5 (XR E w σ.bx) xs vs)(hlen:xs.length=c.ins.Bh.length)(e:v_ c N0 xs σ k=some y):
  Calls P f vs.toArray w fun e w' => ∃x E' xv σ',e= .returned x∧Rel E' σ' a w'∧XR E' w' σ'.bx xv x∧LV (lX c N0 xs σ) E σ.bx w E' σ'.bx w'∧σ'.tm.length=σ.tm.length∧k xv σ' =some y:=by
 obtain⟨KZ,_,aF⟩:=hc;simp only[Sf.ok,AEE]at KZ;obtain⟨⟨hk,hslot⟩,hbo⟩:=KZ;obtain⟨hklen,hk⟩:=RV hk;unfold v_ at e;split at e
 case h_2=>cases e
 rename_i v m WV;simp only[ADc]at e;obtain⟨u,hg,e⟩:=e;obtain⟨_,E1,hf⟩:=ZY h.bx hxs nr (by simp[Bl.m0]) (oC _) WV;have LW:vs.toArray.size=c.ins.Bh.length:=by grind[A5.len]
 refine(aF E1 w v vs.toArray u LW hf.boxes (by simpa using hf.Bh) hg).mono fun e' w' hR=> ?_
 obtain⟨x,E',rfl,base,⟨Fs,hFs1,hFs2⟩,Bh,lG⟩:=hR;simp only[AFp]at hFs2;obtain⟨Fk,k1,k2,k3,k4⟩:=hf.rest;have st:=h.bx.st;have W3:=h.bx.W3;have hM:m.length=c.ins.C6.length:=hf.len;have all:∀i,i<m.length→ ∃b B,m[i]? =some (some b)∧σ.bx[b]? =some B∧B≠ .dead∧ ∀d r,c.ins.C6[i]? =some (.sl d r)→ ∃d' rows,B= .sl d' r rows:=by
  intro i hi;have hp:c.ins.C6[i]? =some (c.ins.C6[i]'(by omega)):=ADU _;grind[hD,Option.some.inj]
 let N:=σ.bx.length
 let M:=m.length
 have uM:∀i b,m[i]? =some (some b)→TG m N i=b:=fun i b h=>by simp[TG,h]
 have AB7:∀i,M≤i→TG m N i=N+(i-M):=fun i hi=>by
  grind[List.getElem?_eq_none,TG]
 have ro:je (TG m N) M N:=⟨fun i hi=>by
   grind,AB7,fun i j hi hj e=>by
   obtain⟨b,B,h1,h2,_⟩:=all i hi;obtain⟨b',B',h1',xY,_⟩:=all j hj;rw[uM i b h1,uM j b' h1']at e;subst e;exact hf.inj i j b h1 h1'⟩
 let E2:Env:={
   Du:=fun n=>if n<N then E.Du n else E'.Du (M+(n-N))
   EK:=fun n=>if n<N then E.EK n else E'.EK (M+(n-N))
   T:=fun c=>E.T c∨E'.S c
   S:=E'.S }
 have hS:∀c,E.S c→E'.S c:=fun d hd=>base.S d (hf.S d hd)
 have hSk:∀d∈Fk.flatten,¬E'.S d:=fun d hd hs=>by
  obtain⟨_,n2,_,n4⟩:=k3 d hd;exact(base.kJ d hs).elim n2 (fun h=>h n4)
 have ph:∀d,E.T d→w'.heap[d]? =w.heap[d]?:=fun d hd=>base.heap d (hf.T d hd)
 have ACk:∀d∈Fk.flatten,w'.heap[d]? =w.heap[d]?:=fun d hd=>base.heap d (k3 d hd).2.2.2
 have ABs:Wz E w E2 w':=⟨fun d hd=> .inl hd,hS,fun d hd=>hd,fun d hd=>by
   rcases base.kJ d hd with h|h
   ·exact hf.kJ d h
   ·exact .inr fun ht=>h (hf.T d ht),ph,base.os,base.tape,base.output,base.size⟩
 let vw':=EM.mk id c.outs.C6 u.2
 let Bs:=EM.mk (TG m N) c.outs.C6 u.2
 let bk:=(BL σ.bx m).map (Bx.map (DB m))
 have hbk:BL (σ.T8 m).bx m=bk:=by rw[mj,WZ]
 have AIL:bk.length=N:=by simp[bk,Fl,N]
 let Uv:=GR (TG m N) 0 Bs bk
 have AIR:Ur (TG m N) 0 c.outs.C6 u.2 (BL (σ.T8 m).bx m)=Uv:=by rw[Z2,hbk]
 obtain⟨s1,s2,s3⟩:=XI ro (l:=Bs) (i:=0) (bx:=bk) (by omega);have AIO:Bs.length=c.outs.C6.length:=NO _;have cl:σ.bx.length≤Uv.length:=by
  grind
 have rn:gy E' E2 c.outs.C6 u.2 Uv (TG m N):=by
  refine⟨fun i hi=> ?_,fun i p hp=> ?_,rfl⟩
  ·by_cases him:i<M
   ·obtain⟨b,B,h1,h2,_⟩:=all i him
    have hbl:b<N:=(ADa.1 h2).1;have g1:=hf.ids i b h1;grind
   grind
  ·obtain⟨z,z1,z2⟩:=VY (TG m N) (u:=u.2) hp
   grind
 have pZ:∀n,n<N→some n∉m→Uv[n]? =bk[n]?:=fun n hn hm=>by
  grind
 have keep:M8 E w σ.bx E2 w' (BL Uv m):=by
  refine⟨by rw[Fl];omega,fun b hb=>by grind,fun d hd=> .inl hd,hS,st,ph,fun b d r rows hb hq=> ?_⟩;have hbm:some b∉m:=fun hm=>by grind[Qu]
  rw[LL hbm,pZ b hb hbm]at hq;have hq1:=om hq;have hq2:σ.bx[b]? =some (.sl d r rows):=by
   rcases Mn (Cf.refl σ.bx) b _ hq1 with e|e
   all_goals grind
  refine⟨d,rows,hq2,fun p hp q ys hgp=>⟨hp,⟨ys,hgp,rfl⟩,fun h' hh=> ?_⟩⟩;have hFk:Fk[b]? =some (Fk[b]'(by rw[k1.1,Fl];omega)):=ADU _;obtain⟨_,ho⟩:=k1.2 b _ _ hq1 hFk;have e2:E2.EK b=E.EK b:=by grind
  grind[gl,List.mem_flatten,List.mem_of_getElem?]
 have vr:∀x v,VR E w σ.bx x v→VR E2 w' Uv (DB m x) v:=fun x v hx=>by
  refine ng keep (fun b d' r BG hbm hq=> ?_) cl hx;obtain⟨i,hi,him⟩:=AGD hbm;have xR:m[i]? =some (some b):=by grind
  obtain⟨b',B,h1,h2,h3,h4⟩:=all i hi;rw[xR]at h1;cases h1;have hio:i<c.outs.C6.length:=by omega
  have hp:c.outs.C6[i]? =some c.outs.C6[i]:=ADU hio;obtain⟨z,z1,z2⟩:=rn.bx i _ hp;rw[uM i b xR,hq]at z2;have AF9:c.ins.C6[i]? =some (c.ins.C6[i]'(by omega)):=ADU _
  generalize c.outs.C6[i]=po at z hp z1 z2
  cases po with
  |mem q=>simp[BP.mk]at z2
  |gone=>simp[BP.mk]at z2
  |sl d0 q=>
   simp only[BP.mk,ADS,Bx.sl.injEq]at z2;obtain⟨rfl,rfl,z2⟩:=z2;obtain rfl:=AFq z2;obtain⟨d1,hpo⟩:=(hk i _ AF9).2 _ _ hp;obtain⟨d2,rows,rfl⟩:=h4 d1 r (by simp_all);have hbl:b<N:=(ADa.1 h2).1;have eh:E2.EK b=E.EK b:=by grind
   refine⟨d2,rows,h2,?_,eh⟩;obtain⟨F0,hR0,_⟩:=h.bx.take h2;have hFi:Fs[i]? =some (Fs[i]'(by rw[hFs1.1,NO];omega)):=ADU _;obtain⟨_,kf⟩:=hFs1.2 i _ _ z1 hFi;have nv:alive c.outs.C6 i=true:=by simp[alive,hp]
   rw[(lG i (by omega) nv).2,(hf.ids i b xR).2]at kf;exact l3 (S5 hR0.2) (S5 kf)
 have XX:c.outs.C6.all (BP.Gw c.outs.C6)=true:=hbo;have rel:Rel E2 { tm:=(σ.T8 m).tm,bx:=Uv } a w':=by
  refine⟨h.ID,?_,?_⟩
  ·rw[fk]
   exact A5.GQ _ (fun x v hx=>nW vr hx) h.tm
  ·refine WO ro (Fs:=Fs) (by omega) (fun i _ hi=> ?_) (by rw[hFs1.1,NO];omega) (fun j B F hB hF=> ?_) ?_
   ·obtain⟨b,B,h1,h2,_⟩:=all i hi
    rw[uM i b h1];have hbl:b<(BL σ.bx m).length:=by grind
    have hd:(BL σ.bx m)[b]? =some .dead:=by
     rw[ADU hbl];exact congrArg some (Qu (AFB h1) (ADU hbl))
    simp only[bk];rw[AFr,hd];rfl
   ·rw[AGm]
    have qW:=(ADa.1 hB).1;have hp:c.outs.C6[j]? =some (c.outs.C6[j]'(by omega)):=ADU _;obtain⟨z,z1,z2⟩:=VY (TG m N) (u:=u.2) hp;have Nt:Bs[j]? =_:=z2;rw[hB]at Nt;cases Nt;exact zN rn hp (AGT.1 XX _ (ADz _)) (hFs1.2 j _ _ z1 hF)
   ·
    refine⟨Fk,⟨by simp[bk,k1.1],fun n B F hn hF=> ?_⟩,?_⟩
    ·simp only[bk]at hn
     rw[AFr,ADV]at hn;obtain⟨B0,hn,rfl⟩:=hn;have nJ:n<N:=by grind
     have h3:=k1.2 n B0 F hn hF;have hFw:∀d∈F,w'.heap[d]? =w.heap[d]?:=fun d hd=>ACk d (AFz.2 ⟨F,AFB hF,hd⟩)
     have eb:E2.Du n=E.Du n:=by grind
     have eh:E2.EK n=E.EK n:=by grind
     cases B0 with
     |mem cs=>
      obtain⟨rfl,arr,ty,fr,ha,hu,hv⟩:=h3;exact⟨by rw[eb],arr,ty,fr,by simp_all,hu,A5.GQ _ vr hv⟩
     |sl d r rows=>
      refine⟨h3.1,?_⟩;rw[eh];exact CH hS (fun d hd=>ph d (st d hd)) hFw h3.2
     |dead=>exact h3
    ·refine⟨AEO.2 ⟨k2,hFs2.nodup,fun x hx z hz he=> ?_⟩,fun d hd ht=> ?_,fun d hd=> ?_,fun d hd=> .inr hd,fun d hd=> ?_⟩
     ·subst he
      exact hFs2.free x hz (base.T x (k3 x hx).2.2.2)
     ·rcases AFt.1 hd with hd|hd
      ·grind
      ·rcases ht with ht|ht
       ·exact hFs2.free d hd (base.T d (hf.T d ht))
       ·exact hFs2.free d hd (hFs2.st d ht)
     ·rcases AFt.1 hd with hd|hd
      ·grind
      ·exact hFs2.lt d hd
     ·rcases hd with hd|hd
      ·grind
      ·exact hFs2.W3 d (hFs2.st d hd)
 have ABe:LV (lX c N0 xs σ) E σ.bx w E2 Uv w':=by
  refine⟨ABs,cl,fun n hn=>⟨by grind,by grind⟩,fun n hn=> ?_,fun n B B' hnt hB Nt mu=> ?_⟩
  rotate_left 1
  ·have nJ:=(ADa.1 hB).1
   have hnm:some n∉m:=fun hm=>hnt (by
    simp only[lX,WV,List.mem_filterMap];simp_all)
   rw[pZ n nJ hnm]at Nt;simp only[bk]at Nt;have hkn:(BL σ.bx m)[n]? =some B:=by grind[LL]
   rw[AFr,hkn]at Nt;have Nt:Bx.map (DB m) B=B':=by simp_all
   have hFk:Fk[n]? =some (Fk[n]'(by rw[k1.1,Fl];omega)):=ADU _;refine⟨?_,fun d hd=> ?_⟩
   ·subst Nt
    cases B with
    |mem cs=>trivial
    |sl d r rows=>rfl
    |dead=>exact absurd rfl mu
   ·rcases Wj (k1.2 n B _ hkn hFk) hd with hs|hs
    all_goals grind[List.mem_flatten,List.mem_of_getElem?]
  have nJ:=(ADa.1 hn).1;have hnm:some n∉m:=fun hm=>by
   obtain⟨i,hi,him⟩:=AGD hm;grind
  rw[pZ n nJ hnm];simp only[bk];rw[AFr,LL hnm,hn];rfl
 refine⟨x,E2,Wt c.outs.Bh u.1 (TG m N),{ tm:=(σ.T8 m).tm,bx:=Uv },rfl,rel,eX rn hslot Bh,ABe,by simp[fk],?_⟩;grind
theorem m_{f:Nat}{c:Sf}(hc:SO P f c)(h:Rel E σ a w){xs:List XV}{vs:List Value}(hxs:A5 (XR E w σ.bx) xs vs)(e:aK c xs σ k=some y):
  Calls P f vs.toArray w fun e w' => ∃x E' xv σ',e= .returned x∧Rel E' σ' a w'∧XR E' w' σ'.bx xv x∧LV (Wg c xs σ) E σ.bx w E' σ'.bx w'∧σ'.tm.length=σ.tm.length∧k xv σ' =some y:=by
 unfold aK at e;split at e
 case isFalse=>cases e
 rename_i hlen;obtain⟨E',h1,h2,h3,h4⟩:=ga h c.ins;have hold:∀b,b<σ.bx.length→(c.ins.opens σ.bx)[b]? =σ.bx[b]?:=fun b hb=>by grind[Bl.opens,List.getElem?_append_left]
 refine(kL (N0:=σ.bx.length) hc h1 h3 (hxs.imp fun x v hx=>h4 x v hx) hlen (k:=k) (y:=y) e).mono fun e' w' hR=> ?_
 obtain⟨x,E2,xv,σ',q0,q1,q2,q3,q4,q5⟩:=hR;exact⟨x,E2,xv,σ',q0,q1,q2,h2.after hold q3,q4,q5⟩
end
end Go.Fw
end
section
namespace Go.Fw
def Xi(P:Program)(Γ:Nat→Option Sf):Prop:= ∀f c,Γ f=some c→SO P f c
theorem fI{Γ:Nat→Option Sf}{σ:St}{o:Op}(h:dE o=false):Fo (fun _=>none) σ o=Fo Γ σ o:=by
 cases o with
 |call c=>
  obtain⟨callee,args,en⟩:=c;cases callee with
  |value f=>simp[dE]at h
  |invoke _ _=>rfl
  |builtin b=>cases b<;>rfl
 |_=>rfl
theorem AAR{Y:Type}{P:Program}{Γ:Nat→Option Sf}{o:Oper}{E:Env}{σ:St}{a:Act}{w:World}{k:K Y}{y:Y}{g:Nat}{c:Sf}(hsc:SO P g c)(h:Rel E σ a w){f:Operand}{args:Array Operand}{en:Array TypeId}
  (ho:o.op= .call { callee:= .value f,args:=args,argTypes:=en }) {ps:List Value} (Vl:a.eval f= .func (.func g) #[] ps.toArray) {xs:List XV} (Fh:A5 (XR E w σ.bx) xs (args.toList.map a.eval++ps)) (ht:Fo Γ σ o.op=Wg c xs σ)
  (e:aK c xs σ k=some y) {next:Act→World→Prop} {Q:Exit→Act→World→Prop}
  (hn:∀v w' E' x σ',Rel E' σ' a w'→XR E' w' σ'.bx x v→LV (Fo Γ σ o.op) E σ.bx w E' σ'.bx w'→σ'.tm.length=σ.tm.length→k x σ' =some y→next (a.put o.dst v) w'):o.wp P a w next Q:=by
 have aF:=m_ hsc h Fh e;have lP:(execOp a.eval o).run P w= .ok (.enter g (args.toList.map a.eval++ps).toArray) w:=by
  have e2:(args.map a.eval)++ps.toArray=(args.toList.map a.eval++ps).toArray:=by
   simp_all
  simp only[execOp,ho,resolve,Vl,Deferred.ofValue,Sem.run_bind,Sem.run_pure,Result.andThen_ok,invoke,Array.empty_append,e2,hsc.2.1]
 unfold Oper.wp;rw[lP];simp only[Oper.upon];refine aF.mono fun e w' hR=> ?_
 grind
section
variable{Y:Type} {P:Program} {T:FI} (hT:Cq P T) {Γ:Nat→Option Sf} (hΓ:Xi P Γ) {o:Oper} {E:Env} {σ:St} {a:Act} {w:World} {k:K Y} {y:Y}
include hT hΓ
theorem mG(h:Rel E σ a w)(e:Rm T Γ o σ k=some y){next:Act→World→Prop}{Q:Exit→Act→World→Prop}
  (hn:∀v w' E' x σ',Rel E' σ' a w'→XR E' w' σ'.bx x v→LV (Fo Γ σ o.op) E σ.bx w E' σ'.bx w'→σ'.tm.length=σ.tm.length→k x σ' =some y→next (a.put o.dst v) w'):o.wp P a w next Q:=by
 by_cases hc:dE o.op=false
 ·obtain⟨v,w',E',x,σ',hr,h1,h2,h3,h4,h5⟩:=my hT h e hc
  rw[fI hc]at h3;unfold Oper.wp;rcases hr with hr|⟨hr,rfl⟩
  ·rw[hr]
   exact hn v w' E' x σ' h1 h2 h3 h4 h5
  ·rw[hr]
   exact hn _ w' E' x σ' h1 h2 h3 h4 h5
 ·
  unfold dE at hc;split at hc
  case h_2=>simp_all
  rename_i f args en ho;unfold Rm at e;rw[ho]at e;dsimp only at e;split at e
  case h_3=>cases e
  ·rename_i g Fj hf
   split at e
   case h_2=>cases e
   rename_i c hg;have hv:=h.ev f;rw[hf]at hv;obtain⟨Vo,Vl⟩:(∀b∈Fj,b<σ.bx.length)∧a.eval f= .func (.func g) #[] (Fj.map fun b=>Value.pointer (some ⟨E.Du b,0,none⟩)).toArray:=hv;have hsc:=hΓ g c hg;have Fh:A5 (XR E w σ.bx) (args.toList.map σ.ev++Fj.map fun b=> .c (.EN b 0)) (args.toList.map a.eval++Fj.map fun b=>Value.pointer (some ⟨E.Du b,0,none⟩)):=by
    refine A5.append (evs h args.toList) ?_
    clear Vl hf e
    induction Fj with
    |nil=>trivial
    |cons b l ih=>exact⟨⟨Vo b (by simp),rfl⟩,ih (fun c hc=>Vo c (by simp[hc]))⟩
   grind[Fo,Wg,AAR]
  ·rename_i g rows hf
   split at e
   case h_2=>cases e
   rename_i c hg;have hv:=h.ev f;rw[hf]at hv;obtain⟨ps,Vl,Vo⟩:∃ps:List Value,a.eval f= .func (.func g) #[] ps.toArray∧A5 (RA E w) rows ps:=hv;have hsc:=hΓ g c hg;have Fh:A5 (XR E w σ.bx) (args.toList.map σ.ev++rows.map fun q=> .c (.Jj false q.1 q.2 0)) (args.toList.map a.eval++ps):=by
    refine A5.append (evs h args.toList) ?_
    clear Vl hf e
    induction rows generalizing ps with
    |nil=>
     cases ps with
     |nil=>trivial
     |cons _ _=>exact Vo.elim
    |cons q l ih=>
     cases ps with
     |nil=>exact Vo.elim
     |cons p ps=>
      obtain⟨⟨bb,o,cs,h1,h2,h3,h4,h5⟩,Vo⟩:=Vo;exact⟨⟨bb,o,cs,h1,h2,h3,h4,h5⟩,ih ps Vo⟩
   grind[Fo,Wg,AAR]
end
theorem Rel.tmp{E:Env}{σ:St}{a:Act}{w:World}(h:Rel E σ a w){t:Nat}{x:XV}(e:σ.tm[t]? =some x):∃v,a.tmps[t]? =some v∧XR E w σ.bx x v:=by
 obtain⟨v,h1,h2⟩:=h.tm.get e;simp_all
def yM:Value→Option Bool
 | .bool b=>some b
 |_=>none
theorem VP{ops:Array Oper}{tmps:Array Value}{j t:Nat}(e:(ops[j]?).bind (·.dst)=some t){v:Value}(hv:tmps[t]? =some v):yielded ops tmps j=yM v:=by
 simp only[yielded,e,ADT,hv];cases v<;>rfl
theorem ca{E:Env}{w:World}{vw:List Bx}:XR E w vw (.LI []) undef:=⟨#[],rfl,trivial⟩
structure Ok (E0:Env) (w0:World) (N nb:Nat) (E:Env) (σ:St) (a:Act) (w:World):Prop where
 rel:Rel E σ a w
 base:Wz E0 w0 E w
 tm:σ.tm.length=N
 gW:nb≤σ.bx.length
 ids:∀i,i<nb→σ.bx[i]?≠some .dead→E.Du i=E0.Du i∧E.EK i=E0.EK i
theorem Ok.next{E0 E E':Env}{w0 w w':World}{N nb:Nat}{σ σ':St}{a a':Act}{t:AAF}(h:Ok E0 w0 N nb E σ a w)(hr:Rel E' σ' a' w')(hw:LV t E σ.bx w E' σ'.bx w')(hl:σ'.tm.length=σ.tm.length):Ok E0 w0 N nb E' σ' a' w':=
 ⟨hr,h.base.trans hw.base,hl.trans h.tm,AGG h.gW hw.len,fun i hi hd=>by
  have h1:=hw.ids i (AF3 hi h.gW);have h2:=h.ids i hi (fun hh=>hd (hw.dead i hh));simp_all⟩
theorem Ok.put{E0 E:Env}{w0 w:World}{N nb:Nat}{σ:St}{a:Act}(h:Ok E0 w0 N nb E σ a w)(dst:Option Tmp){x:XV}{v:Value}(hx:XR E w σ.bx x v):Ok E0 w0 N nb E (σ.put dst x) (a.put dst v) w:=by
 have e1:(σ.put dst x).bx=σ.bx:=by cases dst<;>rfl
 have e2:(σ.put dst x).tm.length=σ.tm.length:=by cases dst<;>simp[St.put]
 refine⟨h.rel.put dst hx,h.base,e2.trans h.tm,by rw[e1];exact h.gW,fun i hi hd=>h.ids i hi (by simp_all)⟩
theorem Ok.same{E0 E:Env}{w0 w:World}{N nb:Nat}{σ σ1:St}{a:Act}(h:Ok E0 w0 N nb E σ a w)(hr:Rel E σ1 a w)(hb:σ1.bx=σ.bx)(hl:σ1.tm.length=σ.tm.length):Ok E0 w0 N nb E σ1 a w:=
 ⟨hr,h.base,hl.trans h.tm,by rw[hb];exact h.gW,fun i hi hd=>h.ids i hi (by simp_all)⟩
end Go.Fw
end
section
namespace Go.Fw
section
variable{Y:Type}
abbrev k0:K (XV×St):=fun x σ=>some (x,σ)
theorem nh{op:BinOp}{κ:IntKind}{a b:Int}(k:AV→Option Y):W9 op κ a b k=(W9 op κ a b some).bind k:=by
 cases op<;>simp[W9]<;>split<;>rfl
theorem jK{op:BinOp}{κ:IntKind}{a b:Int}(k:AV→Option Y):Tc op κ a b k=(Tc op κ a b some).bind k:=by
 unfold Tc;grind
theorem mv{op:BinOp}{a b:List UInt8}(k:AV→Option Y):Yj op a b k=(Yj op a b some).bind k:=by
 cases op<;>simp[Yj]<;>split<;>rfl
theorem cu{T:FI}{t:Nat}{op:BinOp}{a b:XV}(k:AV→Option Y):iz T t op a b k=(iz T t op a b some).bind k:=by
 unfold iz;grind[jK,nh,mv]
theorem iX{op:UnOp}{a:XV}(k:AV→Option Y):vm op a k=(vm op a some).bind k:=by
 unfold vm;grind
theorem Up{g:Bool}{a b:XV}(k:AV→Option Y):iO g a b k=(iO g a b some).bind k:=by
 unfold iO;grind
theorem Gd{len:Nat}{lo hi:Option XV}(k:Nat→Nat→Option Y):Im len lo hi k=(Im len lo hi fun l h=>some (l,h)).bind fun p=>k p.1 p.2:=by
 unfold Im;grind
theorem lj{T:FI}{t:Nat}{σ:St}{x:XV}{lo hi:Option XV}(k:K Y):Zw T t σ x lo hi k=(Zw T t σ x lo hi k0).bind fun p=>k p.1 p.2:=by
 unfold Zw;split
 ·split
  ·rw[Gd,Gd (Y:=XV×St),AGa];rfl
  ·rfl
 ·split
  ·rw[Gd,Gd (Y:=XV×St),AGa];rfl
  ·rfl
 ·split
  ·split
   ·rw[Gd,Gd (Y:=XV×St),AGa];rfl
   ·rfl
  ·rfl
 ·rfl
theorem kS{T:FI}{t:Nat}{σ:St}{x i:XV}(k:K Y):ZZ σ T t x i k=(ZZ σ T t x i k0).bind fun p=>k p.1 p.2:=by
 unfold ZZ;grind
theorem fQ{T:FI}{t:Nat}{σ:St}{x i:XV}(k:K Y):RP T t σ x i k=(RP T t σ x i k0).bind fun p=>k p.1 p.2:=by
 unfold RP;grind
theorem nU{T:FI}{s d:Nat}{σ:St}{x:XV}(k:K Y):gR T s d σ x k=(gR T s d σ x k0).bind fun p=>k p.1 p.2:=by
 unfold gR;grind
theorem nN{T:FI}{t:Nat}{σ:St}{l c:XV}(k:K Y):gb T t σ l c k=(gb T t σ l c k0).bind fun p=>k p.1 p.2:=by
 grind[gb]
theorem aj{T:FI}{t n:Nat}{ps:List (Nat×XV)}{σ:St}(k:K Y):LF T t n ps σ k=(LF T t n ps σ k0).bind fun p=>k p.1 p.2:=by
 grind[LF,Option.bind_assoc]
theorem jc{T:FI}{ts:Array TypeId}{σ:St}{a x:XV}(k:K Y):Wp T ts σ a x k=(Wp T ts σ a x k0).bind fun p=>k p.1 p.2:=by
 unfold Wp;split
 all_goals grind
theorem ka{T:FI}{ts:Array TypeId}{σ:St}{x:XV}(k:K Y):Zb T ts σ x k=(Zb T ts σ x k0).bind fun p=>k p.1 p.2:=by
 unfold Zb;grind
theorem nH{c:Sf}{xs:List XV}{σ:St}(k:K Y):aK c xs σ k=(aK c xs σ k0).bind fun p=>k p.1 p.2:=by
 grind[aK,Option.bind_assoc]
theorem j5{σ:St}{x:XV}(k:K Y):U1 σ x k=(U1 σ x k0).bind fun p=>k p.1 p.2:=by
 unfold U1;grind
theorem nq{T:FI}{Γ:Nat→Option Sf}{o:Oper}{σ:St}(k:K Y):Rm T Γ o σ k=(Rm T Γ o σ k0).bind fun p=>k p.1 p.2:=by
 unfold Rm;split
 ·rfl
 ·exact j5 k
 ·split
  ·rename_i x _
   cases x<;>rfl
  ·rfl
 ·grind
 ·grind
 ·grind
 ·exact aj k
 ·grind
 ·grind
 ·grind
 ·rw[cu,cu (Y:=XV×St),AGa];rfl
 ·rw[iX,iX (Y:=XV×St),AGa];rfl
 ·exact nU k
 ·grind
 ·exact nN k
 ·exact lj k
 ·grind
 ·grind
 ·exact kS k
 ·exact fQ k
 ·grind
 ·grind[nH]
 ·grind
 ·grind[jc]
 ·grind[ka]
 ·split
  ·rw[Up,Up (Y:=XV×St),AGa];rfl
  ·rfl
 ·split
  ·rw[Up,Up (Y:=XV×St),AGa];rfl
  ·rfl
 ·rfl
theorem Zu{I:Type}[Nonempty I]{T:FI}{Γ:Nat→Option Sf}{o:Oper}{σ:St}{k:I→K Y}{y:Y}(h:∀i,Rm T Γ o σ (k i)=some y):∃x σ',Rm T Γ o σ k0=some (x,σ')∧ ∀i,k i x σ' =some y:=by
 obtain⟨i0⟩:= ‹Nonempty I›;have h0:=h i0;grind[nq,Option.bind_eq_some_iff]
end
end Go.Fw
end
section
namespace Go.Fw
def WF{α:Type}(P:Program)(s:Sem α):Prop:= ∀w v w1,s.run P w= .ok v w1→ ∀w',s.run P w' = .ok v w'
section
variable{α β:Type} {P:Program}
theorem WF.pure(x:α):WF P (Pure.pure x:Sem α):=fun w v w1 h w' =>by
 simp_all
theorem WF.bind{s:Sem α}{f:α→Sem β}(h:WF P s)(k:∀v,WF P (f v)):WF P (s >>= f):=fun w v w1 e w' =>by
 rw[Sem.run_bind]at e⊢;cases hs:s.run P w with
 |ok u w2=>
  rw[hs]at e;simp only[Result.andThen_ok]at e;rw[h w u w2 hs w'];simp only[Result.andThen_ok];exact k u w2 v w1 e w'
 |halt x w2=>
  simp_all
theorem WF.halt(x:Halt):WF P (.halt x:Sem α):=fun w v w1 e w' =>by simp_all
theorem WF.program:WF P program:=fun w v w1 e w' =>by
 simp_all
theorem WF.typeInfo(t:TypeId):WF P (typeInfo t):=WF.bind WF.program fun p=>by
 split
 ·exact WF.pure _
 ·exact WF.halt _
theorem WF.underlying(t:TypeId):WF P (underlying t):=WF.bind WF.program fun p=>by
 split
 ·exact WF.pure _
 ·exact WF.halt _
theorem WF.sizeOf(t:TypeId):WF P (Go.sizeOf t):=WF.bind (WF.typeInfo t) fun _=>WF.pure _
theorem WF.isAgg(t:TypeId):WF P (isAgg t):=WF.bind (WF.underlying t) fun d=>by
 grind[WF.pure]
theorem WF.zeroValue(t:TypeId):WF P (zeroValue t):=WF.bind (WF.typeInfo t) fun i=>by
 split
 ·exact WF.pure _
 ·exact WF.halt _
theorem WF.asIntOf(v:Value):WF P (asIntOf v):=by
 unfold Go.asIntOf;split
 ·exact WF.pure _
 ·exact WF.halt _
 ·exact WF.halt _
theorem WF.asBool(v:Value):WF P (asBool v):=by
 unfold Go.asBool;split
 ·exact WF.pure _
 ·exact WF.halt _
theorem WF.asAgg(v:Value):WF P (asAgg v):=by
 unfold Go.asAgg;split
 ·exact WF.pure _
 ·exact WF.halt _
theorem WF.sureAddr(v:Value):WF P (Instr.sureAddr v):=by
 unfold Instr.sureAddr;split
 ·exact WF.pure _
 ·exact WF.halt _
theorem WF.jr{s:Sem α}(h:∀w v w1,s.run P w≠ .ok v w1):WF P s:=fun w v w1 e=>absurd e (h w v w1)
theorem Sa{s:Sem α}{f:α→Sem β}(h:∀x w v w1,(f x).run P w≠ .ok v w1):∀w v w1,(s >>= f).run P w≠ .ok v w1:=fun w v w1 e=>by
 rw[Sem.run_bind]at e;cases hs:s.run P w with
 |ok u w2=>simp_all
 |halt x w2=>simp_all
theorem Xk(x:Halt):∀w v w1,(.halt x:Sem α).run P w≠ .ok v w1:=fun w v w1 e=>by simp_all
theorem aI(e:RuntimeError):∀w v w1,(runtimePanic e:Sem α).run P w≠ .ok v w1:=by
 unfold runtimePanic;refine Sa fun p=> ?_
 dsimp only;split<;>first
  |exact Xk _
  |exact Sa fun _=>Sa fun _=>Xk _
  |exact Sa fun _=>Xk _
theorem WF.bounds(k:IntKind)(x y:Int)(c:BoundsCode):WF P (boundsPanic k x y c:Sem α):=WF.jr (by
 grind[boundsPanic,Sa,aI])
theorem WF.part(t:TypeId)(cs:Array Value)(o:Nat):WF P (part t cs o):=WF.bind (WF.isAgg t) fun b=>by
 split
 ·grind[WF.bind,WF.sizeOf,WF.pure]
 ·split
  ·exact WF.pure _
  ·exact WF.halt _
theorem WF.field(t:TypeId)(x:Value)(f:Nat):WF P (Instr.field t x f):=WF.bind (WF.underlying t) fun d=>by
 split
 ·split
  ·grind[WF.bind,WF.asAgg,WF.part]
  ·exact WF.halt _
 ·exact WF.halt _
theorem WF.indexAt(t:TypeId)(x i:Value):WF P (Instr.indexAt t x i):=WF.bind (WF.asIntOf i) fun q=>by
 obtain⟨k,i⟩:=q;dsimp only;refine WF.bind (WF.underlying t) fun d=> ?_
 have rest:∀q:Option Addr×Nat×TypeId,WF P (do
   let d←Go.underlying t
   match q.1 with
   |some a=>
    if 0≤i∧i<(q.2.1:Int)then do
     let s←Go.sizeOf q.2.2
     Pure.pure (Value.pointer (some (a.add (i.toNat*s))))
    else if(decide (q.2.1≤1)&&(match d with| .array .. =>true|_=>false))=true then unsupported (.noEntry "op/indexAddr.an index out of range at an array of length 0 or 1 (ledger 616)")
    else boundsPanic k i q.2.1 .index
   |none=>boundsPanic k i 0 .index:Sem Value):=fun q=>by
  refine WF.bind (WF.underlying t) fun d=> ?_
  split
  ·split
   ·grind[WF.bind,WF.sizeOf,WF.pure]
   ·repeat' split
    all_goals first|exact WF.halt _|exact WF.bounds _ _ _ _
  grind[WF.bounds]
 split
 ·exact WF.bind (WF.sureAddr _) fun _=>WF.bind (WF.pure _) fun q=>rest q
 ·exact WF.bind (WF.pure _) fun q=>rest q
 ·exact WF.bind (WF.halt _) fun q=>rest q
theorem WF.index(t:TypeId)(x i:Value):WF P (Instr.index t x i):=WF.bind (WF.asIntOf i) fun q=>by
 obtain⟨k,i⟩:=q;dsimp only;refine WF.bind (WF.underlying t) fun d=> ?_
 split
 ·grind[WF.bind,WF.sizeOf,WF.part,WF.bounds]
 ·grind[WF.pure,WF.bounds]
 ·exact WF.halt _
theorem WF.extract(x:Value)(i:Nat):WF P (Instr.extract x i):=by
 unfold Instr.extract;split
 ·split
  ·exact WF.pure _
  ·exact WF.halt _
 ·exact WF.halt _
theorem WF.sliceBound(x:Value)(y:Nat)(c:BoundsCode):WF P (Instr.sliceBound x y c):=WF.bind (WF.asIntOf x) fun q=>by
 grind[WF.pure,WF.bounds]
theorem WF.sliceBounds(b:Bool)(len cap:Nat)(l h:Option Value):WF P (Instr.sliceBounds b len cap l h none):=by
 cases h with
 |none=>
  cases l with
  |none=>exact WF.bind (WF.pure _) fun _=>WF.bind (WF.pure _) fun _=>WF.bind (WF.pure _) fun _=>WF.pure _
  |some l=>exact WF.bind (WF.pure _) fun _=>WF.bind (WF.pure _) fun _=>WF.bind (WF.sliceBound _ _ _) fun _=>WF.pure _
 |some h=>
  cases l with
  |none=>exact WF.bind (WF.pure _) fun _=>WF.bind (WF.sliceBound _ _ _) fun _=>WF.bind (WF.pure _) fun _=>WF.pure _
  |some l=>exact WF.bind (WF.pure _) fun _=>WF.bind (WF.sliceBound _ _ _) fun _=>WF.bind (WF.sliceBound _ _ _) fun _=>WF.pure _
theorem WF.asAddr(v:Value):WF P (asAddr v):=by
 unfold Go.asAddr;split
 ·exact WF.pure _
 ·exact WF.jr (aI _)
 ·exact WF.halt _
theorem WF.slice(t:TypeId)(x:Value)(l h:Option Value):WF P (Instr.slice t x l h none):=WF.bind (WF.underlying t) fun d=>by
 split
 ·grind[WF.bind,WF.sliceBounds,WF.pure]
 ·grind[WF.bind,WF.sliceBounds,WF.sizeOf,WF.pure]
 ·refine WF.bind (WF.asAddr _) fun _=>WF.bind (WF.underlying _) fun d=> ?_
  split
  ·grind[WF.bind,WF.sliceBounds,WF.sizeOf,WF.pure]
  ·exact WF.halt _
 ·exact WF.halt _
theorem WF.sliceAt(t:TypeId)(x:Value)(l h:Option Value):WF P (Instr.sliceAt t x l h none):=WF.bind (WF.underlying t) fun d=>by
 grind[WF.bind,WF.sureAddr,WF.sliceBounds,WF.sizeOf,WF.pure,WF.slice]
theorem WF.gK{f:α→Sem β}(h:∀x,WF P (f x)):∀l:List α,WF P (l.mapM f)
 |[]=>WF.pure _
 |x::l=>by
  rw[AG9];exact WF.bind (h x) fun _=>WF.bind (WF.gK h l) fun _=>WF.pure _
theorem WF.mapM{f:α→Sem β}(h:∀x,WF P (f x))(a:Array α):WF P (a.mapM f):=by
 rw[Array.mapM_eq_mapM_toList,←bind_pure_comp];grind[WF.bind,WF.gK,WF.pure]
theorem WF.build(t:TypeId)(ps:Array (Nat×Value)):WF P (Instr.build t ps):=WF.bind (WF.zeroValue t) fun z=>by
 refine WF.bind (WF.underlying t) fun d=> ?_
 split
 ·refine WF.bind (WF.mapM (fun f=>WF.bind (WF.sizeOf _) fun _=>WF.pure _) _) fun _=> ?_
  split
  ·exact WF.pure _
  ·exact WF.halt _
 ·refine WF.bind (WF.sizeOf _) fun _=> ?_
  split
  ·exact WF.pure _
  ·exact WF.halt _
 ·exact WF.halt _
end
end Go.Fw
end
section
namespace Go.Fw
def Kof(hint:AAF)(E:Env)(w:World)(bx:List Bx)(c:Nat):Prop:=E.T c∨ ∃n B,n∈hint∧bx[n]? =some B∧kH E w n B c
def cG(K:Nat→Prop)(w w':World):Prop:= ∀c,K c→w'.heap[c]? =w.heap[c]?
theorem ma{w:World}{B:Nat→Prop}:∀{p:List Y_} {r:Ty} {h:Value} {rows:List r.D} {q:Ty} {ys:List q.D} {bb o len cap i:Nat},Rd w B (.sl r) [h] rows→BU r rows p→DK r rows p=some ⟨q,ys⟩→
  Ex w h p=some (.slice (some ⟨bb,o,none⟩) len cap)→i<ys.length→RB w (.sl r) [h] rows bb
 |[],r,h,rows,q,ys,bb,o,len,cap,i,hr,hp,hg,hh,hi=>by
  rw[Bc]at hh;cases hh;simp only[DK,ADS,AEY]at hg;obtain⟨rfl,hg⟩:=hg;obtain rfl:=AFq hg;simp only[RB];grind
 |s::p,r,h,rows,q,ys,bb,o,len,cap,i,hr,hp,hg,hh,hi=>by
  simp only[BU]at hp;obtain⟨hsi,LW,hp⟩:=hp;simp only[Rd]at hr;obtain⟨a,cap',e1,_,hr⟩:=hr;obtain rfl:=(List.cons.inj e1).1;rcases hr with hr|⟨b',o',rfl,hb,hr⟩
  ·omega
  obtain⟨cs,hl,hc,hrow⟩:=hr s.i _ (LJ hsi);simp only[DK]at hg;split at hg
  case h_2=>cases hg
  rename_i q' x XY;rw[XY]at hp;dsimp only at hp;obtain⟨v,hv,hrv⟩:=Wh hrow XY;have vk:=hc _ _ hv;rw[←LW]at vk;simp only[Ex,vk]at hh;have:=ma hrv hp hg hh hi;simp only[RB];refine⟨b',o',_,cap',rfl,by omega,.inr ⟨s.i,_,cs,LJ hsi,hl,hc,?_⟩⟩;clear hc vk e1 hr;exact RB_cell hrow XY hv this
where
 RB_cell {w:World} {B:Nat→Prop} {c:Nat}:∀{r:Ty} {cs:List Value} {x:r.D} {j:Nat} {t:Ty} {y:t.D} {v:Value},Rd w B r cs x→Af r j x=some ⟨t,y⟩→cs[j]? =some v→RB w t [v] y c→RB w r cs x c
 | .cons c r,cs,x,0,t,y,v,h,e,hv,k=>by
  simp only[Rd]at h;obtain⟨u,l,rfl,h1,h2⟩:=h;simp only[Af,ADS,AEY]at e;obtain⟨rfl,e⟩:=e;obtain rfl:=AFq e;simp at hv;subst hv;simp only[RB];grind
 | .cons c r,cs,x,j+1,t,y,v,h,e,hv,k=>by
  simp only[Rd]at h;obtain⟨u,l,rfl,h1,h2⟩:=h;simp only[Af]at e;have:=RB_cell h2 e (by simp_all) k;simp only[RB];grind
 | .int k,cs,x,0,t,y,v,h,e,hv,k' =>by
  simp only[Af,ADS,AEY]at e;obtain⟨rfl,_⟩:=e;simp[RB]at k'
 | .bool,cs,x,0,t,y,v,h,e,hv,k' =>by
  simp only[Af,ADS,AEY]at e;obtain⟨rfl,_⟩:=e;simp[RB]at k'
 | .str,cs,x,0,t,y,v,h,e,hv,k' =>by
  simp only[Af,ADS,AEY]at e;obtain⟨rfl,_⟩:=e;simp[RB]at k'
 | .sl r,cs,x,0,t,y,v,h,e,hv,k=>by
  simp only[Af,ADS,AEY]at e;obtain⟨rfl,e⟩:=e;obtain rfl:=AFq e;have hl:=ZP h;simp only[Ty.n]at hl;obtain⟨u,rfl⟩:=List.length_eq_one_iff.1 hl;simp_all
 | .unit,_,_,_,_,_,_,_,e,_,_=>by simp[Af]at e
 | .int _,_,_,_+1,_,_,_,_,e,_,_=>by simp[Af]at e
 | .bool,_,_,_+1,_,_,_,_,e,_,_=>by simp[Af]at e
 | .str,_,_,_+1,_,_,_,_,e,_,_=>by simp[Af]at e
 | .sl _,_,_,_+1,_,_,_,_,e,_,_=>by simp[Af]at e
section
variable{P:Program} {T:FI} (hT:Cq P T) {E:Env} {w:World}
include hT
theorem gL{σ:St}{Fs:List AAF}(hB:Hy E w σ.bx σ.bx Fs)(st:∀c,E.S c→E.T c){t:Nat}{x:AV}{z:XV}(e:Z5 T t σ (.c x)=some z){v:Value}(hx:VR E w σ.bx x v):
  ∃bb oo u y,v= .pointer (some ⟨bb,oo,none⟩)∧E5 σ.bx x 0=some y∧XR E w σ.bx z u∧ ∀w',w'.heap[bb]? =w.heap[bb]?→(Instr.loadAt t v).run P w' = .ok u w':=by
 unfold Z5 at e;split at e
 case h_2=>cases e
 rename_i x' ti wO Ql;cases wO;split at e
 case isTrue=>cases e
 rename_i LW;have YA:=fun w=>Cq.isAgg hT Ql w
 split at e
 ·rename_i ha
  simp only[ADV]at e;obtain⟨l,hl,rfl⟩:=e;obtain⟨h1,h2⟩:=Uw hl;have h0:0<l.length:=by omega
  obtain⟨b,o,u,hv,_,_⟩:=Gl hB st (h2 0 _ (ADU h0)) hx;obtain⟨cs,c1,c2,c3⟩:=V6 hB st hx hv (l:=l) (j:=0) (fun i y hy=>by simp_all);subst hv;have YO:=(hT t ti Ql).oN;cases hd:ti.desc with
  |st fs=>
   rw[hd]at YO;obtain⟨fields,hu,_⟩:=YO;refine⟨b,o,.agg cs.toArray,_,rfl,by simpa using h2 0 _ (ADU h0),⟨cs.toArray,rfl,by omega⟩,fun w' hw=>run_loadAt_mid w' b o t cs _ (by have:=c2.of_block hw;grind[BA,World.rangeAt]) hu rfl ?_⟩;grind[Cq.size]
  |_=>grind[TD.agg]
 ·rename_i ha
  simp only[AGc]at ha;simp only[ADV]at e;obtain⟨y,hy,rfl⟩:=e;obtain⟨b,o,u,hv,hc,hr⟩:=Gl hB st hy hx;subst hv;refine⟨b,o,u,y,rfl,hy,hr,fun w' hw=> ?_⟩;have vv:=YA w';rw[ha]at vv;simp only[AGo]at hc;have Vy:w'.cell? ⟨b,o,none⟩=some u:=by grind[World.cell?_of_block]
  simp[Instr.loadAt,Instr.sureAddr,loadVar,vv,Vy]
end
theorem bp{E E':Env}{w w':World}{vw vw':List Bx}{t:Ty}{x:t.D}{v:Value}(h:VR E w vw (.v t x) v):VR E' w' vw' (.v t x) v:=by
 obtain⟨h1,h2⟩:=h;refine⟨h1,?_⟩;cases t<;>simp_all[Ty.scalar,Rd]
theorem YL{E E':Env}{w w':World}{vw vw':List Bx}{t:Ty}{x:t.D}{v u:Value}(h:VR E w vw (.v t x) v)(k:VR E' w' vw' (.v t x) u):v=u:=by
 obtain⟨h1,h2⟩:=h;obtain⟨_,k2⟩:=k;cases t<;>simp_all[Ty.scalar,Rd]
def Zn(x:XV):Prop:=(∃t z,x= .c (.v t z))∨(∃l,x= .agg l∧ ∀c∈l,∃t z,c= .v t z)
theorem HA{E E':Env}{w w':World}{vw vw':List Bx}{x:XV}{v:Value}(hp:Zn x)(h:XR E w vw x v):XR E' w' vw' x v:=by
 rcases hp with⟨t,z,rfl⟩|⟨l,rfl,hl⟩
 ·exact bp (E:=E) (w:=w) (vw:=vw) (E':=E') (w':=w') (vw':=vw') h
 ·obtain⟨vs,rfl,RQ⟩:=h
  refine⟨vs,rfl,?_⟩
  generalize vs.toList=m at RQ
  induction l generalizing m with
  |nil=>cases m with
   |nil=>trivial
   |cons _ _=>exact RQ.elim
  |cons c l ih=>cases m with
   |nil=>exact RQ.elim
   |cons u m=>
    obtain⟨t,z,rfl⟩:=hl c (by simp);exact⟨bp RQ.1,ih (fun c hc=>hl c (by simp[hc])) m RQ.2⟩
theorem iQ{d:TD}{x z:AV}{p:Bool}(e:eE d x z=some p):(∃t y,x= .v t y)∧ ∃t y,z= .v t y:=by
 unfold eE at e;grind
theorem UF{T:FI}:∀{i:Nat} {fs:List AAO} {l m:List AV} {r:Bool},GD T i fs l m=some r→(∀c∈l,∃t z,c= .v t z)∧ ∀c∈m,∃t z,c= .v t z
 |i,[],[],[],r,e=>by simp
 |i,(o,t)::fs,x::l,z::m,r,e=>by
  simp only[GD]at e;split at e
  case isFalse=>cases e
  split at e
  case h_2=>cases e
  split at e
  case h_2=>cases e
  rename_i p hp;simp only[ADV]at e;obtain⟨r',e1,_⟩:=e;obtain⟨a1,a2⟩:=iQ hp;obtain⟨b1,b2⟩:=UF e1;simp_all
 |_,[],[],_::_,_,e=>by simp[GD]at e
 |_,[],_::_,_,_,e=>by simp[GD]at e
 |_,_::_,[],_,_,e=>by simp[GD]at e
 |_,_::_,_::_,[],_,e=>by simp[GD]at e
theorem tY{op:BinOp}{κ:IntKind}{a b:Int}{r:AV}(e:W9 op κ a b some=some r):∃t x,r= .v t x:=by
 cases op<;>simp only[W9,ADS]at e<;>first
  |exact⟨_,_,e.symm⟩
  |(grind)
  |cases e
theorem nI{op:BinOp}{κ:IntKind}{a b:Int}{r:AV}(e:Tc op κ a b some=some r):∃t x,r= .v t x:=by
 unfold Tc at e;grind
theorem rK{op:BinOp}{a b:List UInt8}{r:AV}(e:Yj op a b some=some r):∃t x,r= .v t x:=by
 cases op<;>simp only[Yj,ADS]at e<;>first
  |exact⟨_,_,e.symm⟩
  |(
   split at e
   all_goals grind)
  |cases e
theorem zV{T:FI}{t:Nat}{op:BinOp}{a b:XV}{r:AV}(e:iz T t op a b some=some r):(∃t x,r= .v t x)∧Zn a∧Zn b:=by
 unfold iz at e;split at e
 ·refine⟨?_,.inl ⟨_,_,rfl⟩,.inl ⟨_,_,rfl⟩⟩
  grind[nI,tY]
 ·exact⟨rK e,.inl ⟨_,_,rfl⟩,.inl ⟨_,_,rfl⟩⟩
 ·refine⟨?_,.inl ⟨_,_,rfl⟩,.inl ⟨_,_,rfl⟩⟩
  grind
 ·split at e
  ·rename_i hq
   rw[ADc]at hq;obtain⟨fs,_,hq⟩:=hq;obtain⟨q1,q2⟩:=UF hq;cases e;exact⟨⟨_,_,rfl⟩,.inr ⟨_,rfl,q1⟩,.inr ⟨_,rfl,q2⟩⟩
  ·rename_i hq
   rw[ADc]at hq;obtain⟨fs,_,hq⟩:=hq;obtain⟨q1,q2⟩:=UF hq;cases e;exact⟨⟨_,_,rfl⟩,.inr ⟨_,rfl,q1⟩,.inr ⟨_,rfl,q2⟩⟩
  simp_all
 simp_all
theorem p_{g:Bool}{a b:XV}{r:AV}(e:iO g a b some=some r):(∃t x,r= .v t x)∧Zn a∧Zn b:=by
 unfold iO at e;split at e
 ·refine⟨?_,.inl ⟨_,_,rfl⟩,.inl ⟨_,_,rfl⟩⟩
  grind
 simp_all
theorem AA8{op:UnOp}{a:XV}{r:AV}(e:vm op a some=some r):(∃t x,r= .v t x)∧Zn a:=by
 unfold vm at e;split at e
 ·cases e;exact⟨⟨_,_,rfl⟩,.inl ⟨_,_,rfl⟩⟩
 ·cases e;exact⟨⟨_,_,rfl⟩,.inl ⟨_,_,rfl⟩⟩
 simp_all
section
variable{Y:Type} {P:Program} {T:FI} (hT:Cq P T) {Γ:Nat→Option Sf} {o:Oper} {E:Env} {σ:St} {a:Act} {w:World} {k:K Y} {y:Y}
include hT
theorem mr(h:Rel E σ a w){t:TypeId}(ps:Array (Nat×Operand)){s b:Nat}{fs:List AAO}{rw:Option Ty}(Ql:T.get t=some ⟨s,b,.st fs,rw⟩){r:Ty}(hr:T.YK t=some r)
  {cs:List AV} (hb:Xl T fs (VC r) (ps.toList.map fun q=>(q.1,σ.ev q.2))=some cs):
  ∃Jb,(∀w',(Instr.build t (ps.map fun(i,x)=>(i,a.eval x))).run P w' = .ok (.agg Jb) w')∧X7 E w σ.bx cs Jb.toList:=by
 obtain⟨i,z,h1,h2,h3,_⟩:=row_zero hT hr;obtain⟨fields,hu,hfs,LW⟩:=sY hT Ql;obtain⟨Jb,f1,f2⟩:=VO hT (bh h ps) (arr:=z.cells) (by grind[Sy]) hb;refine⟨Jb,fun w' => ?_,f2⟩;have hb:P.built t (ps.map fun(i,x)=>(i,a.eval x)).toList=some Jb:=by
  unfold Program.built;simp only[h1,hu,h2];have hm:fields.toList.mapM (fun f=>(P.info? f.type).map fun i=>(f.offset,i.size))=some (fields.toList.map fun f=>(f.offset,((P.info? f.type).map (·.size)).getD 0)):=by
   grind[cY]
  simp only[hm];rw[←f1];congr 1;funext n;subst hfs;simp only[List.getElem?_toArray,AFr];cases hn:fields.toList[n]? with
  |none=>simp
  |some f=>
   obtain⟨i',LH,_⟩:=LW f (AFB hn);simp[LH]
 grind[run_build]
theorem lV{hint:AAF}(h:Rel E σ a w)(hq:YB hint σ o.op=true)(e:Rm T Γ o σ k=some y):
  ∃v x,XR E w σ.bx x v∧k x σ=some y∧ ∀w',cG (Kof hint E w σ.bx) w w'→(execOp a.eval o).run P w' = .ok (.value v) w':=by
 obtain⟨Fs,hB,hS⟩:=h.bx;have st:=hS.st;have wf:∀{s:Sem Value} {v:Value},WF P s→s.run P w= .ok v w→ ∀w',s.run P w' = .ok v w':=fun h1 h2 w' =>h1 w _ w h2 w'
 unfold Rm at e;split at e
 ·rename_i x ho
  exact⟨a.eval x,_,h.ev x,e,fun w' _=>by grind[execOp,Sem.run_pure]⟩
 ·rename_i x ho
  unfold U1 at e;split at e
  ·grind[YB]
  ·exact⟨a.eval x,_,h.ev x,e,fun w' _=>by grind[execOp,Sem.run_pure]⟩
 ·rename_i c xa xb ho
  split at e
  case h_2=>cases e
  rename_i p hp;have hc:=h.ev c;rw[hp]at hc;have Vy:=L7 (E:=E) (w:=w) (vw:=σ.bx) hc;refine⟨if p then a.eval xa else a.eval xb,if p then σ.ev xa else σ.ev xb,by cases p<;>simp[h.ev],by grind[oZ],fun w' _=>by simp[execOp,ho,Vy,asBool]⟩
 ·rename_i t ho;rw[ho]at hq;cases hq
 ·rename_i t x ho;rw[ho]at hq;cases hq
 ·rename_i t ps ho
  split at e
  case h_2=>cases e
  rename_i s b fs rw r Ql hr;split at e
  case h_2=>cases e
  rename_i cs wo;obtain⟨Jb,h1,h2⟩:=mr hT h ps Ql hr wo;exact⟨.agg Jb,.agg cs,⟨Jb,rfl,h2⟩,e,fun w' _=>by grind[execOp,Sem.run_bind,Result.andThen_ok,Sem.run_pure]⟩
 ·rename_i t n ps ho;rw[ho]at hq;cases hq
 ·rename_i t x ho
  rw[ho]at hq;split at e
  case h_2=>cases e
  rename_i z hz;have hv:=h.ev x;simp only[YB]at hq
  generalize hX:σ.ev x=X at hq hv hz
  cases X with
  |agg l=>cases hq
  |LI l=>cases hq
  |c ad=>
   obtain⟨bb,oo,u,cell,hp,hc,h2,h3⟩:=gL hT hB st hz hv;refine⟨u,z,h2,e,fun w' hw' => ?_⟩;have wB:w'.heap[bb]? =w.heap[bb]?:=by
    refine hw' bb ?_
    have Vs:VR E w σ.bx ad (a.eval x):=hv;cases ad with
    |EN b j=>
     simp only[Xc,AGu]at hq;simp only[E5]at hc;split at hc
     ·rename_i cs hb
      refine .inr ⟨b,_,hq,hb,?_⟩;have:=Vs.2;rw[hp]at this;simp only[Value.pointer.injEq,ADS,Addr.mk.injEq]at this;exact this.1
     simp_all
    |E7 b p i sz j=>
     simp only[Xc,AGu]at hq;simp only[E5]at hc;split at hc
     ·rename_i d q rows hb
      refine .inr ⟨b,_,hq,hb,?_⟩;simp only[VR,hb]at Vs;obtain⟨_,hpp,q1,ys,b2,o2,len,cap,g1,g2,g3,g4⟩:=Vs;rw[hp]at g4;simp only[Value.pointer.injEq,ADS,Addr.mk.injEq]at g4;obtain⟨rfl,_⟩:=g4;obtain⟨F,⟨_,wG⟩,_⟩:=hB.get hb;exact ma (S5 wG) hpp g1 g3 g2
     simp_all
    |Jj s r z j=>
     obtain⟨b2,o2,cs,g1,g2,_⟩:=Vs;rw[hp]at g1;simp only[Value.pointer.injEq,ADS,Addr.mk.injEq]at g1;obtain⟨rfl,_⟩:=g1
     left
     grind
    |_=>cases hq
   grind[execOp,Sem.run_bind,Result.andThen_ok,Sem.run_pure]
 ·rename_i t xa xx ho;rw[ho]at hq;cases hq
 ·rename_i x ho
  have hx:=h.ev x;split at e
  ·rename_i b j hp
   rw[hp]at hx;have wO:b<σ.bx.length∧a.eval x= .pointer (some ⟨E.Du b,j,none⟩):=hx;grind[execOp,Sem.run_pure]
  ·rename_i b p i sz j hp
   rw[hp]at hx;have hpt:Vm (a.eval x)=true:=hx.1;grind[Vm,execOp,Sem.run_pure]
  ·rename_i s r z j hp
   rw[hp]at hx;obtain⟨bb,oo,cs,hv,hrest⟩:=hx;exact⟨a.eval x,.c (.Jj s r z j),⟨bb,oo,cs,hv,hrest⟩,e,fun w' _=>by grind[execOp,Sem.run_pure]⟩
  ·rename_i f Fj hp
   rw[hp]at hx;have wO:(∀b∈Fj,b<σ.bx.length)∧a.eval x= .func (.func f) #[] (Fj.map fun b=>Value.pointer (some ⟨E.Du b,0,none⟩)).toArray:=hx;grind[execOp,Sem.run_pure]
  simp_all
 ·rename_i op t x z s ho
  rw[cu,ADc]at e;obtain⟨r,e1,e⟩:=e;obtain⟨⟨t',x',rfl⟩,p1,p2⟩:=zV e1;obtain⟨r0,val,h1,h2,h3⟩:=X2 hT e1 (h.ev x) (h.ev z) x z;cases h1;refine⟨val,.c (.v t' x'),h3,e,fun w' _=> ?_⟩;obtain⟨r1,val',g1,g2,g3⟩:=X2 hT e1 (HA (E':=E) (w':=w') (vw':=σ.bx) p1 (h.ev x)) (HA p2 (h.ev z)) x z;cases g1;have:=YL h3 g3;subst this;simp only[execOp,ho,Sem.run_bind];simp_all
 ·rename_i op t x ho
  rw[iX,ADc]at e;obtain⟨r,e1,e⟩:=e;obtain⟨⟨t',x',rfl⟩,p1⟩:=AA8 e1;obtain⟨r0,val,h1,h2,h3⟩:=Zl (P:=P) e1 (h.ev x);cases h1;refine⟨val,.c (.v t' x'),h3,e,fun w' _=> ?_⟩;obtain⟨r1,val',g1,g2,g3⟩:=Zl (P:=P) e1 (HA (E':=E) (w':=w') (vw':=σ.bx) p1 (h.ev x));grind[YL,execOp,Sem.run_bind,Result.andThen_ok,Sem.run_pure]
 ·rename_i s d x ho;rw[ho]at hq;cases hq
 ·rename_i f first Fj ho;rw[ho]at hq;cases hq
 ·rename_i t l c ho;rw[ho]at hq;cases hq
 ·rename_i t x lo hi ho
  obtain⟨z,val,h1,h2,h3⟩:=YP hT hB st e (h.ev x) (mL h lo) (mL h hi);exact⟨val,z,h3,h1,fun w' _=>by simp only[execOp,ho,Option.map_none,Sem.run_bind,wf (WF.sliceAt _ _ _ _) h2 w',Result.andThen_ok,Sem.run_pure]⟩
 ·rename_i t x f ho
  split at e
  case h_2=>cases e
  rename_i z hz;obtain⟨u,h1,h2⟩:=YJ hT hz (h.ev x);refine⟨u,z,h2,e,fun w' _=> ?_⟩;have hw:(Instr.fieldAt t (a.eval x) f).run P w' = .ok u w':=by
   have hx:=h.ev x;unfold gj at hz;split at hz
   case h_2=>cases hz
   rename_i s b fs _ Ql;split at hz
   case h_2=>cases hz
   rename_i o' u' hf;have key:∀ad,a.eval x= .pointer (some ad)→(Instr.fieldAt t (a.eval x) f).run P w' = .ok u w':=by
    intro ad had;rw[had]at h1⊢;have r1:=O7 hT (w:=w) Ql hf (a:=ad);grind[O7]
   split at hz
   ·rename_i b' j hp
    rw[hp]at hx;exact key _ hx.2
   ·rename_i b' p i sz j hp
    rw[hp]at hx;have hpt:Vm (a.eval x)=true:=hx.1;unfold Vm at hpt;grind
   ·rename_i s r y' j hp
    rw[hp]at hx;obtain⟨bb,oo,cs,hv,_⟩:=hx;simp_all
   simp_all
  grind[execOp,Sem.run_bind,Result.andThen_ok,Sem.run_pure]
 ·rename_i t x f ho
  split at e
  case h_2=>cases e
  rename_i z hz;obtain⟨u,h1,h2⟩:=aT hT hz (h.ev x);exact⟨u,z,h2,e,fun w' _=>by simp only[execOp,ho,Sem.run_bind,wf (WF.field _ _ _) h1 w',Result.andThen_ok,Sem.run_pure]⟩
 ·rename_i t x i ho
  obtain⟨z,val,h1,h2,h3⟩:=X8 hT hB st e (h.ev x) (h.ev i);exact⟨val,z,h3,h1,fun w' _=>by simp only[execOp,ho,Sem.run_bind,wf (WF.indexAt _ _ _) h2 w',Result.andThen_ok,Sem.run_pure]⟩
 ·rename_i t x i ho
  obtain⟨z,val,h1,h2,h3⟩:=Vq hT e (h.ev x) (h.ev i);exact⟨val,z,h3,h1,fun w' _=>by simp only[execOp,ho,Sem.run_bind,wf (WF.index _ _ _) h2 w',Result.andThen_ok,Sem.run_pure]⟩
 ·rename_i x i ho
  split at e
  case h_2=>cases e
  rename_i z hz;obtain⟨u,h1,h2⟩:=V4 (P:=P) hz (h.ev x);exact⟨u,z,h2,e,fun w' _=>by simp only[execOp,ho,Sem.run_bind,wf (WF.extract _ _) h1 w',Result.andThen_ok,Sem.run_pure]⟩
 ·rename_i f args en ho;rw[ho]at hq;cases hq
 ·rename_i args en ho
  split at e
  ·rename_i s t Fh yY
   obtain⟨x,rfl,hx⟩:=Sc Fh;have hv:=h.ev x;rw[hx]at hv;have Vs:=RW (E:=E) (w:=w) (vw:=σ.bx) hv;split at e
   case isFalse=>cases e
   rename_i hs;have hu:=Ri hT hs;refine⟨.int .i64 (s.length:Int),.c (.v (.int .i64) (s.length:Int)),VR.int (E:=E) (vw:=σ.bx) _ _,e,fun w' _=> ?_⟩;have LW:(⟨s.toArray⟩:ByteArray).size=s.length:=by rfl
   simp[execOp,ho,resolve,invoke,builtin,Builtin.len_,yY,Vs,Ai hu,goInt,LW]
  ·rename_i z t _ Fh yY
   obtain⟨x,rfl,hx⟩:=Sc Fh;have hv:=h.ev x;rw[hx]at hv;split at e
   case isFalse=>cases e
   rename_i hs;split at e
   case h_2=>cases e
   rename_i n hn;obtain⟨el,hu⟩:=ZU hT hs;obtain⟨ad,cap,Vs⟩:=Z0 hB st hn hv;refine⟨.int .i64 (n:Int),.c (.v (.int .i64) (n:Int)),VR.int (E:=E) (vw:=σ.bx) _ _,e,fun w' _=> ?_⟩;simp[execOp,ho,resolve,invoke,builtin,Builtin.len_,yY,Vs,Ai hu,goInt]
  simp_all
 ·rename_i args en ho;rw[ho]at hq;cases hq
 ·rename_i args en ho;rw[ho]at hq;cases hq
 ·rename_i args en ho
  split at e
  case h_2=>cases e
  rename_i x1 x2 Fh;obtain⟨o1,o2,rfl,hx1,hx2⟩:=SI Fh;have Vo:=h.ev o1;have Vl:=h.ev o2;rw[hx1]at Vo;rw[hx2]at Vl;rw[Up,ADc]at e;obtain⟨r,e1,e⟩:=e;obtain⟨⟨t',x',rfl⟩,p1,p2⟩:=p_ e1;obtain⟨r0,val,h1,h2,h3⟩:=NN (P:=P) (big:=true) e1 Vo Vl en #[] o.type;cases h1;refine⟨val,.c (.v t' x'),h3,e,fun w' _=> ?_⟩;obtain⟨r1,val',g1,g2,g3⟩:=NN (P:=P) (big:=true) e1 (HA (E':=E) (w':=w') (vw':=σ.bx) p1 Vo) (HA p2 Vl) en #[] o.type;cases g1;have:=YL h3 g3;subst this;simp only[AGF]at g2;simp[execOp,ho,resolve,invoke,builtin,g2]
 ·rename_i args en ho
  split at e
  case h_2=>cases e
  rename_i x1 x2 Fh;obtain⟨o1,o2,rfl,hx1,hx2⟩:=SI Fh;have Vo:=h.ev o1;have Vl:=h.ev o2;rw[hx1]at Vo;rw[hx2]at Vl;rw[Up,ADc]at e;obtain⟨r,e1,e⟩:=e;obtain⟨⟨t',x',rfl⟩,p1,p2⟩:=p_ e1;obtain⟨r0,val,h1,h2,h3⟩:=NN (P:=P) (big:=false) e1 Vo Vl en #[] o.type;cases h1;refine⟨val,.c (.v t' x'),h3,e,fun w' _=> ?_⟩;obtain⟨r1,val',g1,g2,g3⟩:=NN (P:=P) (big:=false) e1 (HA (E':=E) (w':=w') (vw':=σ.bx) p1 Vo) (HA p2 Vl) en #[] o.type;cases g1;have:=YL h3 g3;subst this;simp only[AFZ,AFg]at g2;simp[execOp,ho,resolve,invoke,builtin,g2]
 simp_all
end
end Go.Fw
end
section
namespace Go.Fw
section
variable{P:Program} {md:Region.Mode} {ops:Array Oper} {Q:Exit→Act→World→Prop}
theorem cG.refl(K:Nat→Prop)(w:World):cG K w w:=fun _ _=>rfl
def jX(P:Program)(md:Region.Mode)(ops:Array Oper)(Q:Exit→Act→World→Prop):Nat→Array Bool→(Nat→Prop)→Act→World→Prop
 |0,listed,_,a,w=>Region.ready md ops listed=[]∧Q .normal a w
 |fuel+1,listed,K,a,w=>(Region.ready md ops listed=[]→Q .normal a w)∧
  ∀i∈Region.ready md ops listed,wpOp P ops Q i (fun a' w' => ∃K':Nat→Prop,(∀c,K c→K' c)∧cG K w w'∧jX P md ops Q fuel (listed.setIfInBounds i true) K' a' w') a w
theorem fi:∀(fuel:Nat) (listed:Array Bool) (K:Nat→Prop) (a:Act) (w:World),jX P md ops Q fuel listed K a w→wpAny P md ops Q fuel listed a w
 |0,_,_,_,_,h=>h
 |fuel+1,_,_,_,_,h=>⟨h.1,fun i hi=>wpOp_mono (fun a' w' ⟨K',_,_,h'⟩=>fi fuel _ K' a' w' h') (h.2 i hi)⟩
theorem YieldsIf.mono{S S':World→Prop}{o:Oper}{v:Value}{a:Act}(h:YieldsIf P ops S o v a)(hs:∀w,S' w→S w):YieldsIf P ops S' o v a:=
 h.imp (fun⟨h1,h2⟩=>⟨h1,fun w hw=>h2 w (hs w hw)⟩) id
theorem aN{i:Nat}{oi:Oper}{v:Value}(hi:ops[i]? =some oi)(pD:∀(j:Nat) (o:Oper) cs b,ops[j]? =some o→o.op≠ .select cs b)(hQ:∀c a w,¬Q (.panic c) a w):
  ∀(fuel:Nat) (listed:Array Bool) (K:Nat→Prop) (a:Act) (w:World),
   (∀j oj,ops[j]? =some oj→j≠i→listed.getD j true=false→(∀e∈oj.after,Region.binds md e=true→e.on≠i)→oi.apart ops oj=true)→
   i∈Region.ready md ops listed→YieldsIf P ops (cG K w) oi v a→jX P md ops Q fuel (listed.setIfInBounds i true) K (a.put oi.dst v) w→jX P md ops Q (fuel+1) listed K a w:=by
 intro fuel
 induction fuel with
 |zero=>
  intro listed K a w _ hr hy H;refine⟨fun h=>(by simp_all),fun j hj=> ?_⟩;by_cases hji:j=i
  ·subst hji;exact hy.wpOp hi (cG.refl K w) ⟨K,fun _ h=>h,cG.refl K w,H⟩
  ·have:=ready_mono hj hji
   rw[H.1]at this;cases this
 |succ fuel ih=>
  intro listed K a w Vj hr hy H;refine⟨fun h=>(by simp_all),fun j hj=> ?_⟩;by_cases hji:j=i
  ·subst hji;exact hy.wpOp hi (cG.refl K w) ⟨K,fun _ h=>h,cG.refl K w,H⟩
  ·have h1:=H.2 j (ready_mono hj hji)
   obtain⟨hjun,oj,hoj,XX⟩:=mem_ready.1 hj;have ABp:∀e∈oj.after,Region.binds md e=true→e.on≠i:=fun e he hb heq=>by
    grind[mem_ready,Nat.lt_or_ge,Array.getElem?_eq_none]
   have h2:=wpOp_putIf hoj (Vj j oj hoj hji hjun ABp) (fun cs b=>pD i oi cs b hi) (fun cs b=>pD j oj cs b hoj) (fun c a w h=>absurd h (hQ c _ w)) hy h1;have zT:∀k ok,ops[k]? =some ok→k≠i→(listed.setIfInBounds j true).getD k true=false→
     (∀e∈ok.after,Region.binds md e=true→e.on≠i)→oi.apart ops ok=true:=fun k ok hk hki hun hno=>by
    refine Vj k ok hk hki ?_ hno
    by_cases hjk:j=k
    all_goals simp_all
   refine wpOp_mono (fun a' w' h3=> ?_) h2;obtain⟨hy',K',hK,hs,ht⟩:=h3;refine⟨K',hK,hs,ih (listed.setIfInBounds j true) K' a' w' zT (ready_mono hr (Ne.symm hji)) (YieldsIf.mono hy' fun w'' AF_ c hc=>(AF_ c (hK c hc)).trans (hs c hc)) ?_⟩;grind[Array.setIfInBounds_comm]
end
theorem aQ{Y:Type}{f:Nat→List Bool→Option Y}{y:Y}:∀{rs:AAF},(∀ω,ia f rs ω=some y)→ ∀i∈rs,∀ω,f i ω=some y
 |[i],h,j,hj,ω=>by
  simp at hj;subst hj;exact h ω
 |i::j::r,h,k,hk,ω=>by
  rcases AGO.1 hk with rfl|hk
  ·exact h (true::ω)
  ·exact aQ (rs:=j::r) (fun ω=>h (false::ω)) k hk ω
theorem jm{σ:St}{t:Nat}{b:Bool}(e:σ.tm[t]? =some (.c (.v .bool b))):σ.put (some t) (.c (.v .bool b))=σ:=by
 simp only[St.put];obtain⟨tm,bx⟩:=σ;simp only[St.mk.injEq,AGN];obtain⟨RF,he⟩:=ADa.1 e;apply AGj;grind
theorem gX{Y I:Type}[Nonempty I]{C:bV}{ops:Array Oper}{o:Oper}{kn:I→St→Option Y}{σ:St}{y:Y}{E:Env}{a:Act}{w:World}(h:Rel E σ a w)
  (e:∀ω,mQ C ops o (kn ω) σ=some y):
  (Region.wanted o (yielded ops a.tmps)=true∧ ∀ω,(Rm C.T C.Γ o σ fun x σ' =>kn ω (σ'.put o.dst x))=some y)∨
  (Region.wanted o (yielded ops a.tmps)=false∧ ∀ω,kn ω (σ.put o.dst (.LI []))=some y):=by
 unfold mQ at e;cases hg:o.guard with
 |none=>
  simp only[hg]at e;grind[Region.wanted]
 |some q=>
  obtain⟨j,want⟩:=q;simp only[hg]at e;cases ht:(ops[j]?).bind (·.dst)with
  |none=>
   simp_all
  |some t=>
   simp only[ht]at e;obtain⟨i0⟩:= ‹Nonempty I›;have e0:=e i0;split at e0
   ·rename_i b hb
    simp only[hb]at e;obtain⟨v,hv,hx⟩:=h.tmp hb;have hvb:=L7 (E:=E) (w:=w) (vw:=σ.bx) hx;subst hvb;have hy:yielded ops a.tmps j=some b:=by rw[VP ht hv];rfl
    have hk:=jm hb;cases b with
    |true=>
     simp only[AF7,tt,hk]at e;cases want with
     |true=>grind[Region.wanted]
     |false=>grind[Region.wanted]
    |false=>
     simp only[AEt,ff,hk]at e;cases want with
     |true=>grind[Region.wanted]
     |false=>grind[Region.wanted]
   ·rename_i hb
    simp only[hb]at e;obtain⟨v,hv,vs,rfl,hx⟩:=h.tmp hb;grind[yielded,VP,Region.wanted]
   simp_all
theorem pr{ops:Array Oper}{o:Oper}{σ:St}{E:Env}{a:Act}{w:World}(h:Rel E σ a w)(e:idle ops σ o=true):Region.wanted o (yielded ops a.tmps)=false:=by
 unfold idle at e;cases hg:o.guard with
 |none=>simp_all
 |some q=>
  obtain⟨j,want⟩:=q;simp only[hg]at e;cases ht:(ops[j]?).bind (·.dst)with
  |none=>simp_all
  |some t=>
   simp only[ht]at e;split at e
   ·rename_i b hb
    obtain⟨v,hv,hx⟩:=h.tmp hb;have hvb:=L7 (E:=E) (w:=w) (vw:=σ.bx) hx;grind[yielded,VP,Region.wanted]
   ·rename_i hb
    obtain⟨v,hv,vs,rfl,hx⟩:=h.tmp hb;grind[yielded,VP,Region.wanted]
   simp_all
theorem gH{Y I:Type}[Nonempty I]{C:bV}{ops:Array Oper}{i:Nat}{o:Oper}(ho:ops[i]? =some o){kn:I→St→Option Y}{σ:St}{y:Y}{E:Env}{a:Act}{w:World}(h:Rel E σ a w)
  (e:∀ω,l6 C ops i (kn ω) σ=some y):
  (Region.wanted o (yielded ops a.tmps)=true∧ ∀ω,(Rm C.T C.Γ o σ fun x σ' =>kn ω (σ'.put o.dst x))=some y)∨
  (Region.wanted o (yielded ops a.tmps)=false∧ ∀ω,kn ω (σ.put o.dst (.LI []))=some y):=
 gX h fun ω=>by
  grind[l6]
theorem oy{hint t:AAF}{E E':Env}{bx K6:List Bx}{w w':World}(h:LV t E bx w E' K6 w')(ht:∀b∈t,b∉hint)(ha:∀b∈hint,Ze K6 b=false):
  (∀c,Kof hint E w bx c→Kof hint E' w' K6 c)∧cG (Kof hint E w bx) w w':=by
 have key:∀n B,n∈hint→bx[n]? =some B→ ∃B',K6[n]? =some B'∧Pl B B'∧ ∀c,kH E w n B c→w'.heap[c]? =w.heap[c]?:=by
  intro n B hn hB;have hd:=ha n hn;unfold Ze at hd;split at hd
  ·cases hd
  ·rename_i B' aB Nt
   obtain⟨h1,h2⟩:=h.frame n B B' (fun hm=>ht n hm hn) hB Nt aB;simp_all
  simp_all
 refine⟨fun c hc=> ?_,fun c hc=> ?_⟩
 ·rcases hc with hc|⟨n,B,hn,hB,hc⟩
  ·exact .inl (h.base.T c hc)
  ·obtain⟨B',Nt,hs,hh⟩:=key n B hn hB
   have hid:=h.ids n (ADa.1 hB).1;refine .inr ⟨n,B',hn,Nt,?_⟩;cases B with
   |mem cs=>
    cases B' with
    |mem Wd=>grind[kH]
    |sl _ _ _=>exact hs.elim
    |dead=>exact hs.elim
   |sl d r rows=>
    cases B' with
    |mem Wd=>exact hs.elim
    |dead=>exact hs.elim
    |sl d' r' BG=>
     simp only[Pl,AEY]at hs;obtain⟨rfl,hs⟩:=hs;obtain rfl:=AFq hs;grind[kH,ba]
   |dead=>exact hc.elim
 ·rcases hc with hc|⟨n,B,hn,hB,hc⟩
  ·exact h.base.heap c hc
  grind
theorem UP{Y:Type}{C:bV}{hint:AAF}{ops:Array Oper}{kn:List Bool→St→Option Y}{fuel:Nat}{listed:Array Bool}{ω:List Bool}{σ:St}{y:Y}(e:N9 C hint ops kn fuel listed ω σ=some y):∀b∈hint,Ze σ.bx b=false:=by
 grind[N9,List.all_eq_true]
theorem hN{Y:Type}{P:Program}{C:bV}(hT:Cq P C.T)(hΓ:Xi P C.Γ){E0:Env}{w0:World}{N nb:Nat}{hint:AAF}{ops:Array Oper}{kn:List Bool→St→Option Y}{y:Y}{Q:Exit→Act→World→Prop}
  (pD:Region.noSelect ops=true) (hP:∀c a w,¬Q (.panic c) a w) (hk:∀E σ a w,Ok E0 w0 N nb E σ a w→(∀ω,kn ω σ=some y)→Q .normal a w):
  ∀(fuel:Nat) {listed:Array Bool} {E:Env} {σ:St} {a:Act} {w:World},Ok E0 w0 N nb E σ a w→(∀ω,N9 C hint ops kn fuel listed ω σ=some y)→jX P .any ops Q fuel listed (Kof hint E w σ.bx) a w:=by
 intro fuel
 induction fuel with
 |zero=>
  intro listed E σ a w h e;have e1:=fun ω=>e ω
  unfold N9 at e1;have nv:=UP (e []);have zP:(hint.all fun b=> !Ze σ.bx b)=true:=AGT.2 fun b hb=>by simp_all
  simp only[zP,AGF]at e1;cases hr:Region.ready .any ops listed with
  |nil=>
   simp only[hr]at e1;exact⟨hr,hk E σ a w h e1⟩
  |cons i rs=>
   simp_all
 |succ fuel ih=>
  intro listed E σ a w h e;have e1:=fun ω=>e ω
  unfold N9 at e1;have nv:=UP (e []);have zP:(hint.all fun b=> !Ze σ.bx b)=true:=AGT.2 fun b hb=>by simp_all
  simp only[zP,AGF]at e1;cases hr:Region.ready .any ops listed with
  |nil=>
   simp only[hr]at e1;exact⟨fun _=>hk E σ a w h e1,by simp_all⟩
  |cons i0 rs=>
   simp only[hr]at e1;cases hf:(i0::rs).find? (cB hint ops listed σ)with
   |some i=>
    simp only[hf]at e1;have hi:=AGx hf;have ht:=List.find?_some hf
    unfold cB at ht;cases ho:ops[i]? with
    |none=>simp_all
    |some o=>
     simp only[ho,AEE]at ht;have Vj:=Region.free_spec ho ht.2;rw[←hr]at hi;have hy:=gH (I:=List Bool) (kn:=fun ω σ' =>N9 C hint ops kn fuel (listed.setIfInBounds i true) ω σ') ho h.rel e1;rcases hy with⟨hw,hx⟩|⟨hw,hx⟩
     ·have hq:YB hint σ o.op=true:=by
       rcases AGH _ _▸ht.1 with hq|hi
       ·omega
       ·rw[pr h.rel hi]at hw
        cases hw
      obtain⟨x,σ',hx0,hx1⟩:=Zu hx;obtain⟨v,x',q1,q2,q3⟩:=lV hT h.rel hq hx0;simp only[k0,ADS,AFu]at q2;obtain⟨rfl,rfl⟩:=q2;have YS:=ih (h.put o.dst q1) hx1;have iw:(σ.put o.dst x').bx=σ.bx:=by cases o.dst<;>rfl
      rw[iw]at YS;exact aN ho (Region.noSelect_spec pD) hP fuel listed _ a w Vj hi (.inl ⟨hw,q3⟩) YS
     ·have YS:=ih (h.put o.dst ca) hx
      have iw:(σ.put o.dst (.LI [])).bx=σ.bx:=by cases o.dst<;>rfl
      rw[iw]at YS;exact aN ho (Region.noSelect_spec pD) hP fuel listed _ a w Vj hi (.inr ⟨hw,rfl⟩) YS
   |none=>
    simp only[hf]at e1;have XX:=aQ e1;refine⟨fun h0=>(by simp_all),fun i hi=> ?_⟩;rw[hr]at hi;have hx:=XX i hi;cases ho:ops[i]? with
    |none=>
     simp_all
    |some o=>
     simp only[ho]at hx;have htc:(Fo C.Γ σ o.op).all (fun b=> !hint.contains b)=true:=by
      have:=hx [];simp_all
     simp only[htc,AGF]at hx;have htn:∀b∈Fo C.Γ σ o.op,b∉hint:=fun b hb hh=>by
      simp_all
     unfold wpOp;simp only[ho];rcases gH (I:=List Bool) (kn:=fun ω σ' =>N9 C hint ops kn fuel (listed.setIfInBounds i true) ω σ') ho h.rel hx with⟨hw,hx⟩|⟨hw,hx⟩
     ·rw[ADW hw]
      obtain⟨x,σ',hx0,hx1⟩:=Zu hx;refine .inl (mG hT hΓ h.rel hx0 fun v w' E' x' σ'' g1 g2 g3 g4 g5=> ?_);simp only[k0,ADS,AFu]at g5;obtain⟨rfl,rfl⟩:=g5;have iw:(σ''.put o.dst x').bx=σ''.bx:=by cases o.dst<;>rfl
      have ACi:=UP (hx1 []);rw[iw]at ACi;obtain⟨k1,k2⟩:=oy g3 htn ACi;have YS:=ih ((h.next g1 g3 g4).put o.dst g2) hx1;grind
     ·rw[AEK (by simp[hw])]
      have YS:=ih (h.put o.dst ca) hx;have iw:(σ.put o.dst (.LI [])).bx=σ.bx:=by cases o.dst<;>rfl
      grind[cG.refl]
end Go.Fw
end
section
namespace Go.Fw
theorem Rel.heap{E:Env}{σ:St}{a:Act}{w w':World}(h:Rel E σ a w)(hw:w'.heap=w.heap):Rel E σ a w':=by
 have keep:M8 E w σ.bx E w' σ.bx:=by
  refine⟨AF2 _,fun _ _=>rfl,fun _ h=>h,fun _ h=>h,h.bx.st,fun _ _=>by rw[hw],fun b d r rows hb e=>⟨d,rows,e,fun p hp q ys hg=>⟨hp,⟨ys,hg,rfl⟩,fun hh he=> ?_⟩⟩⟩;obtain⟨Fs,⟨f1,f2⟩,_⟩:=h.bx;have hF:Fs[b]? =some (Fs[b]'(by omega)):=ADU _;exact gl (f2 b _ _ e hF).2 (fun _ _=>by rw[hw]) (fun _ _=>by rw[hw]) hp hg he
 exact⟨h.ID,h.tm.imp fun _ _ hx=>JS keep hx,h.bx.turn (fun _ _ hv=>C2 keep hv) (fun _ h=>h) (fun _ _=>rfl) (fun _ _=>rfl) (fun _ _ _=>by rw[hw]) fun F hF=>⟨hF.nodup,hF.free,fun c hc=>by rw[hw];exact hF.lt c hc,hF.st,fun c hc=>by rw[hw];exact hF.W3 c hc⟩⟩
theorem Ok.drawn{E0 E:Env}{w0 w:World}{N nb:Nat}{σ:St}{a:Act}(h:Ok E0 w0 N nb E σ a w)(n:Nat):Ok E0 w0 N nb E σ a { w with drawn:=n }:=
 ⟨h.rel.heap rfl,⟨h.base.T,h.base.S,h.base.sI,h.base.kJ,h.base.heap,h.base.os,h.base.tape,h.base.output,h.base.size⟩,h.tm,h.gW,h.ids⟩
theorem Zk{Y I:Type}[Nonempty I]{P:Program}{C:bV}(hT:Cq P C.T)(hΓ:Xi P C.Γ){E0:Env}{w0:World}{N nb:Nat}{all:Array Oper}{kn:I→St→Option Y}{y:Y}{Q:Exit→Act→World→Prop}
  (hk:∀E σ a w,Ok E0 w0 N nb E σ a w→(∀ω,kn ω σ=some y)→Q .normal a w):∀{l:List Oper} {E:Env} {σ:St} {a:Act} {w:World},Ok E0 w0 N nb E σ a w→(∀ω,ic C all l (kn ω) σ=some y)→wpList P all Q l a w
 |[],E,σ,a,w,h,e=>hk E σ a w h e
 |o::rest,E,σ,a,w,h,e=>by
  unfold wpList;rcases gX (kn:=fun ω σ=>ic C all rest (kn ω) σ) h.rel e with⟨hw,hx⟩|⟨hw,hx⟩
  ·rw[ADW hw]
   obtain⟨x,σ',hx0,hx1⟩:=Zu hx;refine .inl (mG hT hΓ h.rel hx0 fun v w' E' x' σ'' g1 g2 g3 g4 g5=> ?_);simp only[k0,ADS,AFu]at g5;obtain⟨rfl,rfl⟩:=g5;exact Zk hT hΓ hk ((h.next g1 g3 g4).put o.dst g2) hx1
  ·rw[AEK (by simp[hw])]
   exact Zk hT hΓ hk (h.put o.dst ca) hx
def JB(P:Program)(body:Code)(Q:Exit→Act→World→Prop)(a:Act)(w:World):Prop:=
 ∀(b:Frame) (k:List Item) (cs:List Frame),∃e a' w',Q e a' w'∧Arrives P (lone (b.at a (.code body:: .inLoop body::k)) cs w) b k cs e a' w'
theorem JB.wp{P:Program}{body:Code}{Q:Exit→Act→World→Prop}{a:Act}{w:World}(h:JB P body Q a w):(Code.loop body).wp P Q a w:=fun b k cs=>by
 obtain⟨e,a',w',hq,Xm⟩:=h b k cs;exact⟨e,a',w',hq,.of_steps (.one step_loop) Xm⟩
theorem JB.rL{P:Program}{body:Code}{Q:Exit→Act→World→Prop}{a:Act}{w:World}(h:body.wp P (Exit.then (JB P body Q) Q) a w):JB P body Q a w:=fun b k cs=>by
 obtain⟨e,a₁,w₁,hq,Xm⟩:=h b (.inLoop body::k) cs;cases e with
 |normal=>
  obtain⟨e₂,a₂,w₂,hq₂,harr₂⟩:=hq b k cs;exact⟨e₂,a₂,w₂,hq₂,.of_steps (Steps.trans Xm (.one step_inLoop)) harr₂⟩
 |exit id=>exact⟨_,a₁,w₁,hq,.pass (x:= .inLoop body) rfl (fun _ _=> .inl (by simp)) Xm⟩
 |goto l=>exact⟨_,a₁,w₁,hq,.pass (x:= .inLoop body) rfl (fun _ _=> .inl (by simp)) Xm⟩
 |ret=>exact⟨_,a₁,w₁,hq,.pass (x:= .inLoop body) rfl (fun _ _=> .inl (by simp)) Xm⟩
 |panic ch=>exact⟨_,a₁,w₁,hq,.pass (x:= .inLoop body) rfl (fun _ _=> .inl (by simp)) Xm⟩
 |outgrown=>exact⟨_,a₁,w₁,hq,.pass (x:= .inLoop body) rfl (fun _ _=> .inl (by simp)) Xm⟩
abbrev Zo:=Exit→Act→World→Prop
def At(P:Program):Code→Zo→Nat→Code→Zo→Prop
 | .seq a b,Q,ℓ,body,Q' =>At P a (Exit.then (b.wp P Q) Q) ℓ body Q'∨At P b Q ℓ body Q'
 | .cond _ a b,Q,ℓ,body,Q' =>At P a Q ℓ body Q'∨At P b Q ℓ body Q'
 | .block id c,Q,ℓ,body,Q' =>At P c (Exit.inBlock id Q) ℓ body Q'
 | .loop c,Q,ℓ,body,Q' =>(first c= ℓ ∧body=c∧Q' =Q)∨At P c (Exit.then (JB P c Q) Q) ℓ body Q'
 |_,_,_,_,_=>False
def WY(Q:Zo):Prop:= ∀c a w,¬Q (.panic c) a w
theorem WY.then{Q:Zo}(h:WY Q)(n:Act→World→Prop):WY (Exit.then n Q):=fun c a w hq=>h c a w hq
theorem WY.inBlock{Q:Zo}(h:WY Q)(id:Nat):WY (Exit.inBlock id Q):=fun c a w hq=>h c a w hq
section
variable{Y:Type} {P:Program} {C:bV} (hT:Cq P C.T) (hΓ:Xi P C.Γ) (hm:P.follows .mixedOrders=true) {E0:Env} {w0:World} {N nb:Nat} {y:Y} {J:Nat→St→Option Y}
structure Good (E0:Env) (w0:World) (N nb:Nat) (y:Y) (kn:KN Y) (kx:Nat→KN Y) (kr:KN Y) (Q:Zo):Prop where
 n:∀E σ a w,Ok E0 w0 N nb E σ a w→(∀ω,kn ω σ=some y)→Q .normal a w
 x:∀id E σ a w,Ok E0 w0 N nb E σ a w→(∀ω,kx id ω σ=some y)→Q (.exit id) a w
 r:∀E σ a w,Ok E0 w0 N nb E σ a w→(∀ω,kr ω σ=some y)→Q .ret a w
def xM(P:Program)(E0:Env)(w0:World)(N nb:Nat)(y:Y)(J:Nat→St→Option Y)(cd:Code)(Q:Zo):Prop:=
 ∀ ℓ body Q',At P cd Q ℓ body Q'→ ∀E σ a w,Ok E0 w0 N nb E σ a w→J ℓ σ=some y→JB P body Q' a w
include hT hΓ hm in
theorem ku:∀{cd:Code} {kn:KN Y} {kx:Nat→KN Y} {kr:KN Y} {Q:Zo} {E:Env} {σ:St} {a:Act} {w:World},WY Q→Good E0 w0 N nb y kn kx kr Q→xM P E0 w0 N nb y J cd Q→Ok E0 w0 N nb E σ a w→
  (∀ω,run C J cd kn kx kr ω σ=some y)→cd.wp P Q a w:=by
 intro cd
 induction cd with
 |skip=>intro kn kx kr Q E σ a w hp hg hj h e;exact wp_skip (hg.n E σ a w h e)
 |region id ops draw=>
  intro kn kx kr Q E σ a w hp hg hj h e;simp only[run]at e;cases draw with
  |false=>
   simp only[AFZ,AFg]at e;exact wp_region_list (Zk hT hΓ hg.n h e)
  |true=>
   simp only[AGF]at e;have hs:Region.noSelect ops=true:=by
    have:=e [];split at this
    ·rename_i hh;exact hh
    ·cases this
   simp only[hs,AGF]at e;exact wp_region_any hm (fi _ _ _ _ _ (hN hT hΓ hs hp hg.n _ (h.drawn _) e))
 |seq x z ihx ihz=>
  intro kn kx kr Q E σ a w hp hg hj h e;simp only[run]at e;refine wp_seq (ihx (hp.then _) ⟨fun E σ a w h e=>ihz hp hg (fun ℓ body Q' LX=>hj ℓ body Q' (.inr LX)) h e,fun id E σ a w h e=>hg.x id E σ a w h e,hg.r⟩ (fun ℓ body Q' LX=>hj ℓ body Q' (.inl LX)) h e)
 |cond c x z ihx ihz=>
  intro kn kx kr Q E σ a w hp hg hj h e;cases c with
  |tmp t=>
   simp only[run]at e;have e0:=e [];split at e0
   ·rename_i b hb
    simp only[hb]at e;obtain⟨v,hv,hx⟩:=h.rel.tmp hb;have hvb:=L7 (E:=E) (w:=w) (vw:=σ.bx) hx;subst hvb;have hev:a.eval (.tmp t)= .bool b:=by simp[Act.eval,AGv,hv]
    have hk:=jm hb;cases b with
    |true=>
     simp only[AF7,tt,hk]at e;exact wp_cond_true hev (ihx hp hg (fun ℓ body Q' LX=>hj ℓ body Q' (.inl LX)) h e)
    |false=>
     simp only[AEt,ff,hk]at e;exact wp_cond_false hev (ihz hp hg (fun ℓ body Q' LX=>hj ℓ body Q' (.inr LX)) h e)
   ·cases e0
  |_=>cases e []
 |block id c ih=>
  intro kn kx kr Q E σ a w hp hg hj h e;simp only[run]at e;refine wp_block (ih (hp.inBlock id) ⟨hg.n,fun j E σ a w h e=> ?_,hg.r⟩ (fun ℓ body Q' LX=>hj ℓ body Q' LX) h e);simp only[Exit.inBlock];split
  ·rename_i hid
   simp only[hid,AGF]at e;exact hg.n E σ a w h e
  ·rename_i hid
   simp only[hid,AFg]at e;exact hg.x j E σ a w h e
 |loop body ih=>
  intro kn kx kr Q E σ a w hp hg hj h e;simp only[run]at e;exact JB.wp (hj (first body) body Q (.inl ⟨rfl,rfl,rfl⟩) E σ a w h (e []))
 |exit id=>intro kn kx kr Q E σ a w hp hg hj h e;exact wp_exit (hg.x id E σ a w h e)
 |ret=>intro kn kx kr Q E σ a w hp hg hj h e;exact wp_ret (hg.r E σ a w h e)
 |_=>intro kn kx kr Q E σ a w hp hg hj h e;cases e []
end
end Go.Fw
end
section
namespace Go.Fw
def labels:Code→List Nat
 | .seq a b=>labels a++labels b
 | .cond _ a b=>labels a++labels b
 | .block _ c=>labels c
 | .loop c=>first c::labels c
 |_=>[]
theorem At.label{P:Program}:∀{cd:Code} {Q:Zo} {ℓ :Nat} {body:Code} {Q':Zo},At P cd Q ℓ body Q'→ ℓ ∈labels cd
 | .seq a b,Q,ℓ,body,Q',h=>by
  simp only[labels,AFt];exact h.imp At.label At.label
 | .cond _ a b,Q,ℓ,body,Q',h=>by
  simp only[labels,AFt];exact h.imp At.label At.label
 | .block _ c,Q,ℓ,body,Q',h=>At.label (cd:=c) h
 | .loop c,Q,ℓ,body,Q',h=>by
  simp only[labels,AGO];exact h.imp (fun h=>h.1.symm) At.label
section
variable{Y:Type} {P:Program} {C:bV} (hT:Cq P C.T) (hΓ:Xi P C.Γ) (hm:P.follows .mixedOrders=true) {E0:Env} {w0:World} {N nb:Nat} {y:Y} {J:Nat→St→Option Y}
theorem LU{ℓ :Nat}:∀{cd:Code} {kn:KN Y} {kx:Nat→KN Y} {kr:KN Y},ℓ ∉labels cd→find C J ℓ cd kn kx kr=none
 | .seq a b,kn,kx,kr,h=>by
  simp only[labels,AFt,not_or]at h;simp only[find];rw[LU h.1];exact LU h.2
 | .cond _ a b,kn,kx,kr,h=>by
  simp only[labels,AFt,not_or]at h;simp only[find];rw[LU h.1];exact LU h.2
 | .block _ c,kn,kx,kr,h=>by simp only[find];exact LU (cd:=c) h
 | .loop c,kn,kx,kr,h=>by
  simp only[labels,AGO,not_or]at h;simp only[find];rw[AEK (fun e=>h.1 e.symm)];exact LU h.2
 | .skip,_,_,_,_=>rfl
 | .region _ _ _,_,_,_,_=>rfl
 | .rangeFunc _ _ _ _,_,_,_,_=>rfl
 | .exit _,_,_,_,_=>rfl
 | .scope _,_,_,_,_=>rfl
 | .label _,_,_,_,_=>rfl
 | .goto _,_,_,_,_=>rfl
 | .ret,_,_,_,_=>rfl
 | .refuse _,_,_,_,_=>rfl
include hT hΓ hm in
theorem qe{ℓ :Nat}:∀{cd:Code} {kn:KN Y} {kx:Nat→KN Y} {kr:KN Y} {Q:Zo} {body:Code} {Q':Zo},(labels cd).Nodup→WY Q→Good E0 w0 N nb y kn kx kr Q→xM P E0 w0 N nb y J cd Q→At P cd Q ℓ body Q'→
  ∃kn' kx' kr',find C J ℓ cd kn kx kr=some (fun ω σ=>run C J body (fun _ σ=>J ℓ σ) kx' kr' ω σ)∧Good E0 w0 N nb y kn' kx' kr' Q'∧WY Q'∧xM P E0 w0 N nb y J body (Exit.then (JB P body Q') Q'):=by
 intro cd
 induction cd with
 |seq a b iha ihb=>
  intro kn kx kr Q body Q' hn hp hg hj LX;simp only[labels,AEO]at hn;obtain⟨n1,n2,n3⟩:=hn;have hja:xM P E0 w0 N nb y J a (Exit.then (b.wp P Q) Q):=fun ℓ body Q' LX=>hj ℓ body Q' (.inl LX)
  have hjb:xM P E0 w0 N nb y J b Q:=fun ℓ body Q' LX=>hj ℓ body Q' (.inr LX)
  simp only[find];rcases LX with LX|LX
  ·obtain⟨kn',kx',kr',h1,h2⟩:=iha n1 (hp.then _) (kn:=fun ω σ=>run C J b kn kx kr ω σ) (kx:=kx) (kr:=kr)
    ⟨fun E σ a w h e=>ku hT hΓ hm hp hg hjb h e,fun id E σ a w h e=>hg.x id E σ a w h e,hg.r⟩ hja LX
   exact⟨kn',kx',kr',by rw[h1],h2⟩
  ·have: ℓ ∉labels a:=fun h=>n3 ℓ h ℓ LX.label rfl
   rw[LU this];exact ihb n2 hp hg hjb LX
 |cond c a b iha ihb=>
  intro kn kx kr Q body Q' hn hp hg hj LX;simp only[labels,AEO]at hn;obtain⟨n1,n2,n3⟩:=hn;simp only[find];rcases LX with LX|LX
  ·obtain⟨kn',kx',kr',h1,h2⟩:=iha n1 hp hg (fun ℓ body Q' LX=>hj ℓ body Q' (.inl LX)) LX
   exact⟨kn',kx',kr',by rw[h1],h2⟩
  ·have: ℓ ∉labels a:=fun h=>n3 ℓ h ℓ LX.label rfl
   rw[LU this];exact ihb n2 hp hg (fun ℓ body Q' LX=>hj ℓ body Q' (.inr LX)) LX
 |block id c ih=>
  intro kn kx kr Q body Q' hn hp hg hj LX;simp only[find];refine ih hn (hp.inBlock id) ⟨hg.n,fun j E σ a w h e=> ?_,hg.r⟩ (fun ℓ body Q' LX=>hj ℓ body Q' LX) LX;simp only[Exit.inBlock];split
  ·rename_i hid
   simp only[hid,AGF]at e;exact hg.n E σ a w h e
  ·rename_i hid
   simp only[hid,AFg]at e;exact hg.x j E σ a w h e
 |loop c ih=>
  intro kn kx kr Q body Q' hn hp hg hj LX;simp only[labels,AG5]at hn;have hj':xM P E0 w0 N nb y J c (Exit.then (JB P c Q) Q):=fun ℓ body Q' LX=>hj ℓ body Q' (.inr LX)
  simp only[find];by_cases hl:first c= ℓ
  ·rw[ADW hl]
   rcases LX with⟨_,rfl,rfl⟩|LX
   ·exact⟨kn,kx,kr,rfl,hg,hp,hj'⟩
   ·exact absurd (hl▸LX.label) hn.1
  ·rw[AEK hl]
   rcases LX with⟨h,_⟩|LX
   ·exact absurd h hl
   ·exact ih hn.2 (hp.then _) ⟨fun E σ a w h e=>hj (first c) c Q (.inl ⟨rfl,rfl,rfl⟩) E σ a w h (e []),fun id E σ a w h e=>hg.x id E σ a w h e,hg.r⟩ hj' LX
 |_=>intro kn kx kr Q body Q' hn hp hg hj LX;exact LX.elim
end
theorem Yk{E:Env}{w:World}{vw:List Bx}:∀{l:List (Nat×XP)} {x:DC.V l} {vals:List Value} {tm:List XV},G2 E w vw id l x vals→A5 (XR E w vw) tm vals→A5 (XR E w vw) (DC.mk id l x tm) vals
 |[],_,_,_,_,h=>h
 |(i,p)::l,x,vals,tm,hs,h=>by
  obtain⟨⟨v,hv,hx⟩,hs⟩:=hs;simp only[DC.mk];refine Yk hs ?_
  have:=A5.set (i:=i) h hx;have e:vals.set i v=vals:=by
   apply AGj;grind
  simp_all
theorem A5.undef{E:Env}{w:World}{vw:List Bx}:∀{vals:List Value} {n:Nat},n=vals.length→A5 (XR E w vw) (List.replicate n (.c .undef)) vals
 |[],n,h=>by subst h;trivial
 |v::vals,n,h=>by
  subst h;simp only[AE7,List.replicate_succ];exact⟨trivial,A5.undef rfl⟩
theorem gf.shared{E E1:Env}{w:World}{bx:List Bx}{m:Jt}{s:Bl}{x:s.V}{vals:List Value}(h:gf E w bx m s x vals E1)(hb:BR E w bx bx []):
  ∃E2,E2.Du=E1.Du∧E2.EK=E1.EK∧Wz E w E2 w∧BR E2 w (EM.mk id s.C6 x.2) (EM.mk id s.C6 x.2) []∧G2 E2 w (EM.mk id s.C6 x.2) id s.Bh x.1 vals:=by
 obtain⟨Fk,k1,k2,k3,k4⟩:=h.rest
 let E2:Env:={ E1 with S:=fun c=>E1.S c∨c∈Fk.flatten }
 have st1:=h.boxes.st;have keep:M8 E1 w (EM.mk id s.C6 x.2) E2 w (EM.mk id s.C6 x.2):=
  ⟨AF2 _,fun _ _=>rfl,fun _ h=>h,fun _ h=> .inl h,st1,fun _ _=>rfl,fun b d r rows _ e=>⟨d,rows,e,fun p hp q ys hg=>⟨hp,⟨ys,hg,rfl⟩,fun _ h=>h⟩⟩⟩
 refine⟨E2,rfl,rfl,⟨h.T,fun c hc=> .inl (h.S c hc),fun c hc=> ?_,fun c hc=> ?_,fun _ _=>rfl,rfl,rfl,rfl,AF2 _⟩,?_,?_⟩
 ·grind
 ·rcases hc with hc|hc
  ·exact h.kJ c hc
  grind
 ·refine h.boxes.turn (E':=E2) (w':=w) (fun _ _ hv=>C2 keep hv) (fun _ h=> .inl h) (fun _ _=>rfl) (fun _ _=>rfl) (fun _ _ _=>rfl) fun F hF=>⟨hF.nodup,hF.free,hF.lt,fun c hc=>hc.elim (hF.st c) fun h=>(k3 c h).2.2.2,hF.W3⟩
 ·have:∀{l:List (Nat×XP)} {z:DC.V l},G2 E1 w (EM.mk id s.C6 x.2) id l z vals→G2 E2 w (EM.mk id s.C6 x.2) id l z vals:=by
   intro l
   induction l with
   |nil=>intro z h;trivial
   |cons q l ih=>
    obtain⟨i,p⟩:=q;intro z h;obtain⟨⟨v,hv,hx⟩,hs⟩:=h;exact⟨⟨v,hv,JS keep hx⟩,ih hs⟩
  exact this h.Bh
theorem XQ:∀{l:List BP} {i n:Nat},(Nn i n l).length=l.length
 |[],_,_=>rfl
 |_::l,i,n=>by simp[Nn,XQ (l:=l)]
theorem Xy:∀{l:List BP} {i n k b:Nat},(Nn i n l)[k]? =some (some b)→b=i+k∧b<n∧l[k]?≠some .gone
 |[],i,n,k,b,h=>by simp[Nn]at h
 |p::l,i,n,0,b,h=>by
  grind[Nn,List.getElem?_cons_zero,Option.some.injEq]
 |p::l,i,n,k+1,b,h=>by
  simp only[Nn,List.getElem?_cons_succ]at h;obtain⟨h1,h2,h3⟩:=Xy h;grind
theorem XU:∀{l:List BP} {i n k:Nat} {p:BP},l[k]? =some p→p≠ .gone→i+k<n→(Nn i n l)[k]? =some (some (i+k))
 |q::l,i,n,0,p,h,hg,hn=>by
  simp at h;subst h;simp only[Nn,AGW,ADS];simp_all
 |q::l,i,n,k+1,p,h,hg,hn=>by
  simp only[Nn,List.getElem?_cons_succ];rw[XU (l:=l) (i:=i+1) (k:=k) (by simp_all) hg (by omega)];grind
 |[],_,_,_,_,h,_,_=>by simp at h
theorem dM{l:List BP}{n:Nat}:bj (Nn 0 n l):=fun i j b h k=>by
 have:=(Xy h).1;have:=(Xy k).1;omega
end Go.Fw
end
section
namespace Go.Fw
structure AAd (P:Program) (f:Nat) (fn:Func) (c:Sf):Prop where
 at_:P.funcs[f]? =some fn
 call:∀args w,(callFunc f args).run P w= .ok (.enter f args) w
 con:c.ok=true
 tmps:c.ins.Bh.length≤fn.ntmps
 labels:∀code,fn.body=some code→(labels code).Nodup
section
variable{P:Program} {C:bV} (hT:Cq P C.T) {E:Env} {σ:St} {a:Act} {w:World}
include hT in
theorem p9(h:Rel E σ a w):
  ∀{rs:List ResultVar} {xs:List XV},rs.mapM (o6 C.T σ)=some xs→ ∃vs,(∀f:ResultVar→Sem Value,(∀u,f (.tmp u)=pure (a.tmps.getD u undef))→(∀b t,f (.cell b t)=(do loadVar t (←asAddr (a.tmps.getD b undef))))→
   (rs.mapM f).run P w= .ok vs w)∧A5 (XR E w σ.bx) xs vs:=by
 intro rs
 induction rs with
 |nil=>
  intro xs e;have hx:xs=[]:=by simpa using e.symm
  subst hx;exact⟨[],fun f _ _=>by simp,trivial⟩
 |cons r rs ih=>
  intro xs e;rw[AG9]at e;simp only[Option.bind_eq_bind,ADc,Option.pure_def,ADS]at e;obtain⟨x,e1,ys,e2,rfl⟩:=e;obtain⟨vs,h1,h2⟩:=ih e2;have one:∃v,(∀f:ResultVar→Sem Value,(∀u,f (.tmp u)=pure (a.tmps.getD u undef))→(∀b t,f (.cell b t)=(do loadVar t (←asAddr (a.tmps.getD b undef))))→(f r).run P w= .ok v w)∧XR E w σ.bx x v:=by
   cases r with
   |tmp t=>
    simp only[o6]at e1;obtain⟨v,hv,hx⟩:=h.tmp e1;refine⟨v,fun f hf hc=> ?_,hx⟩;rw[hf];simp[AGv,hv]
   |cell b t=>
    simp only[o6]at e1;split at e1
    case h_2=>cases e1
    rename_i z hz;obtain⟨v,hv,hx⟩:=h.tmp hz;obtain⟨Fs,hB,hS⟩:=h.bx;cases z with
    |agg l=>simp[Z5]at e1
    |LI l=>simp[Z5]at e1
    |c ad=>
     obtain⟨bb,oo,u,cell,hp,_,q2,q3⟩:=gL hT hB hS.st e1 hx;refine⟨u,fun f hf hc=> ?_,q2⟩;have hgd:a.tmps.getD b undef=v:=by simp[AGv,hv]
     have:=q3 w rfl;rw[hc,hgd,hp];rw[hp]at this;simpa[Instr.loadAt,Instr.sureAddr,asAddr]using this
  obtain⟨v,g1,g2⟩:=one;refine⟨v::vs,fun f hf hc=> ?_,g2,h2⟩;rw[AG9];simp[g1 f hf hc,h1 f hf hc]
theorem Xz{vw:List Bx}:∀{l:List XV} {q:List (AV ⊕ List AV)} {vs:List Value},jA l=some q→A5 (XR E w vw) l vs→A5 (TR E w vw) q vs
 |[],q,[],e,_=>by
  simp only[jA,ADS]at e;subst e;trivial
 |[],_,_::_,_,h=>h.elim
 | .c x::l,q,v::vs,e,h=>by
  simp only[jA,ADV]at e;obtain⟨r,e1,rfl⟩:=e;exact⟨h.1,Xz e1 h.2⟩
 | .agg x::l,q,v::vs,e,h=>by
  simp only[jA,ADV]at e;obtain⟨r,e1,rfl⟩:=e;exact⟨h.1,Xz e1 h.2⟩
 | .LI _::_,_,_,e,_=>by simp[jA]at e
 | .c _::_,_,[],_,h=>h.elim
 | .agg _::_,_,[],_,h=>h.elim
include hT in
theorem ez(h:Rel E σ a w){fn:Func}{x:XV}(e:YU C.T σ fn.results.toList=some x):∃v,(results fn a.tmps).run P w= .ok v w∧XR E w σ.bx x v:=by
 unfold YU at e;have key:∀xs,fn.results.toList.mapM (o6 C.T σ)=some xs→ ∃vs:List Value,(results fn a.tmps).run P w= .ok (if h:vs.toArray.size=1 then vs.toArray[0]else .tuple vs.toArray) w∧A5 (XR E w σ.bx) xs vs:=by
  intro xs hx;obtain⟨vs,h1,h2⟩:=p9 (P:=P) hT h hx;refine⟨vs,?_,h2⟩;unfold results;rw[Array.mapM_eq_mapM_toList];simp only[Sem.run_bind,Sem.run_map];rw[h1 _ (fun _=>rfl) (fun _ _=>rfl)];simp only[Result.andThen_ok,Sem.run_pure]
 split at e
 ·rename_i z hz
  cases e;obtain⟨vs,h1,h2⟩:=key _ hz
  match vs,h2 with
  |[v],h2=>exact⟨v,by simpa using h1,h2.1⟩
  |v::_::_,h2=>exact h2.2.elim
  |[],h2=>exact h2.elim
 ·rename_i l hl hz
  simp only[ADV]at e;obtain⟨q,e1,rfl⟩:=e;obtain⟨vs,h1,h2⟩:=key _ hz;have aB: ¬vs.toArray.size=1:=fun hs=>by
   have:=A5.len h2
   match l,this with
   |[z],_=>exact hl z rfl
   |[],t=>simp at t hs;omega
   |_::_::_,t=>simp at t hs;omega
  rw[dif_neg aB]at h1;exact⟨_,h1,vs.toArray,rfl,by simpa using Xz e1 h2⟩
 ·cases e
end
theorem XN{E:Env}{w:World}{vw:List Bx}{more:List Value}:∀{l:List (Nat×XP)} {x:DC.V l} {vals:List Value},G2 E w vw id l x vals→G2 E w vw id l x (vals++more)
 |[],_,_,_=>trivial
 |(i,p)::l,x,vals,h=>by
  obtain⟨⟨v,hv,hx⟩,hs⟩:=h;exact⟨⟨v,by grind,hx⟩,XN hs⟩
def mK(C:bV)(c:Sf)(fn:Func)(code:Code)(J:Nat→Nat→St→Option c.outs.V):Prop:=
 ∀ ℓ,ℓ ∈labels code→ ∃(s:Bl) (F:Nat→s.V→Option c.outs.V),(∀n,J n ℓ =jump c.ins.C6.length s (F n))∧(∀v,F 0 v=none)∧
  ∀n v y,F (n+1) v=some y→ ∀ω,TJ C c fn (J n) ℓ ω (s.st fn.ntmps v)=some y
section
variable{P:Program} {C:bV} (hT:Cq P C.T) (hΓ:Xi P C.Γ) (hm:P.follows .mixedOrders=true) {fn:Func} {c:Sf}
def yd(c:Sf)(E0:Env)(w0:World)(u:c.outs.V)(e:Ending)(w':World):Prop:=
 ∃x E',e= .returned x∧Wz E0 w0 E' w'∧BR E' w' (EM.mk id c.outs.C6 u.2) (EM.mk id c.outs.C6 u.2) []∧
  G2 E' w' (EM.mk id c.outs.C6 u.2) id c.outs.Bh u.1 [x]∧ ∀i,i<c.ins.C6.length→alive c.outs.C6 i=true→E'.Du i=E0.Du i∧E'.EK i=E0.EK i
theorem Ok.opens{E0 E:Env}{w0 w:World}{N nb:Nat}{σ:St}{a:Act}(h:Ok E0 w0 N nb E σ a w)(s:Bl):∃E',Ok E0 w0 N nb E' { σ with bx:=s.opens σ.bx } a w∧
  (∀(i:Nat) d r,s.C6[i]? =some (.sl d r)→E'.EK (σ.bx.length+i)= .slice none 0 0)∧(∀x v,XR E w σ.bx x v→XR E' w (s.opens σ.bx) x v):=by
 obtain⟨E',h1,h2,h3,h4⟩:=ga h.rel s;exact⟨E',h.next h1 h2 rfl,h3,h4⟩
theorem pT{E E':Env}{w:World}{vw:List Bx}{b:Nat}(h:Le E E')(st:∀c,E.S c→E.T c):M8 E w vw E' w (vw.set b .dead):=by
 refine⟨by simp,fun b _=>by rw[h.Du],h.T,h.S,st,fun _ _=>rfl,fun c d r rows _ e=> ?_⟩;by_cases hc:c=b
 ·simp_all
 ·rw[AFx (fun e=>hc e.symm)]at e
  exact⟨d,rows,e,fun p hp q ys hg=>⟨hp,⟨ys,hg,rfl⟩,fun h' hh=>by rw[h.EK];omega⟩⟩
theorem sr{E:Env}{σ:St}{a:Act}{w:World}(h:Rel E σ a w)(b:Nat):∃E',Rel E' (σ.eO b) a w∧Le E E':=by
 unfold St.eO;split
 case h_2=>grind[Le.refl]
 rename_i d r rows hb;obtain⟨F,hF,hB⟩:=h.bx.take hb;have Sr:BR E w σ.bx (σ.bx.set b .dead) ([]++F++[]):=by simp_all
 obtain⟨hle,hB3⟩:=Sr.share;have hk:=pT (vw:=σ.bx) (b:=b) (w:=w) hle h.bx.st;have hk2:M8 E w σ.bx { E with S:=fun c=>E.S c∨c∈F,T:=fun c=>E.T c∨c∈F } w ((σ.bx.set b .dead).map (Bx.eO b r rows)):=by
  refine⟨by simp,hk.Du,hk.T,hk.S,hk.st,hk.heap,fun c d' r' BG hc e=> ?_⟩;rw[AFr,ADV]at e;obtain⟨B,e,eB⟩:=e;cases B with
  |mem cs=>cases eB
  |dead=>cases eB
  |sl d0 r0 Lj=>
   cases eB;grind
 have hv:∀x v,VR E w σ.bx x v→VR { E with S:=fun c=>E.S c∨c∈F,T:=fun c=>E.T c∨c∈F } w ((σ.bx.set b .dead).map (Bx.eO b r rows)) (x.eO b r rows) v:=fun x v hx=>by
  unfold AV.eO;split
  ·rename_i c
   split
   ·rename_i hc
    subst hc;obtain⟨h1,h2⟩:=hx;rw[hb]at h2;have hv:=h2.2.2;rw[Bc]at hv;simp only[ADS]at hv;have:=S5 hF.2;rw[hv]at this;exact Cs (fun c hc=>hc) (fun _ _=>rfl) this
   grind[C2]
  grind[C2]
 refine⟨_,⟨h.ID,?_,?_⟩,hle⟩
 ·refine A5.GQ _ (fun x v hx=> ?_) h.tm
  unfold XV.eO;split
  ·exact hv _ _ hx
  grind[JS]
 ·obtain⟨Fs,⟨hl,h1⟩,h2⟩:=hB
  have xY:Sep E w (F++Fs.flatten):=h2.perm (by grind);refine⟨Fs,⟨by simp_all,fun k B G Nt hG=> ?_⟩,?_⟩
  ·rw[AFr,ADV]at Nt
   obtain⟨B0,e,rfl⟩:=Nt;have h3:=h1 k B0 G e hG;cases B0 with
   |mem cs=>
    obtain⟨rfl,arr,ty,fr,a1,a2,a3⟩:=h3;exact⟨rfl,arr,ty,fr,a1,a2,A5.GQ _ (fun x v hx=>hv x v hx) a3⟩
   |sl d0 r0 Lj=>exact⟨h3.1,CH hle.S (fun _ _=>rfl) (fun _ _=>rfl) h3.2⟩
   |dead=>exact h3
  ·rw[AFp]
   have st:=h.bx.st;refine⟨(AEO.1 xY.nodup).2.1,fun c hc ht=> ?_,fun c hc=>xY.lt c (by simp_all),fun c hc=>hc.imp (st c) id,fun c hc=>hc.elim (xY.W3 c) fun h' =>xY.lt c (by simp[h'])⟩;rcases ht with ht|ht
   ·exact xY.free c (AFt.2 (.inr hc)) ht
   ·exact(AEO.1 xY.nodup).2.2 c ht c hc rfl
theorem pd{σ:St}{b i:Nat}(h:σ.bx[i]? =some .dead):(σ.eO b).bx[i]? =some .dead:=by
 unfold St.eO;split
 ·simp only[AFr,List.getElem?_set]
  split
  ·simp_all
  ·rw[h];rfl
 omega
theorem mX{σ:St}{b:Nat}:(σ.eO b).bx.length=σ.bx.length∧(σ.eO b).tm.length=σ.tm.length:=by
 grind[St.eO]
theorem Ok.eO{E0 E:Env}{w0 w:World}{N nb:Nat}{σ:St}{a:Act}(h:Ok E0 w0 N nb E σ a w)(b:Nat):∃E',Ok E0 w0 N nb E' (σ.eO b) a w:=by
 obtain⟨E',h1,h2⟩:=sr h.rel b;refine⟨E',⟨h1,h.base.trans (h2.base w),by rw[mX.2];exact h.tm,by rw[mX.1];exact h.gW,fun i hi hd=> ?_⟩⟩;rw[h2.Du,h2.EK];exact h.ids i hi fun e=>hd (pd e)
theorem Ok.DO{E0:Env}{w0 w:World}{N nb:Nat}{a:Act}:∀(l:List AP) (xs:List AV) {E:Env} {σ:St},Ok E0 w0 N nb E σ a w→ ∃E',Ok E0 w0 N nb E' (DO l xs σ) a w:=by
 intro l xs E σ h
 induction l generalizing xs E σ with
 |nil=>grind[Fw.DO]
 |cons p l ih=>
  unfold Fw.DO;split
  ·rename_i heq
   cases heq;obtain⟨E',h'⟩:=h.eO _;exact ih _ h'
  ·rename_i heq
   cases heq;exact ih _ h
  grind
theorem Ok.ADp{E0:Env}{w0 w:World}{N nb:Nat}{a:Act}{bs:List BP}:∀(l:List (Nat×XP)) {E:Env} {σ:St},Ok E0 w0 N nb E σ a w→ ∃E',Ok E0 w0 N nb E' (KB bs l σ) a w:=by
 intro l
 induction l with
 |nil=>intro E σ h;exact⟨E,h⟩
 |cons q l ih=>
  intro E σ h;unfold KB;split
  ·simp_all
  ·rename_i e
   cases e;split
   ·obtain⟨E',h'⟩:=h.DO [_] [_]
    exact ih h'
   grind
  ·rename_i e
   cases e;split
   ·split
    ·obtain⟨E',h'⟩:=h.DO _ _
     exact ih h'
    grind
   grind
  grind
theorem g_{E:Env}{w:World}{vw:List Bx}{x:AV}{v:Value}(h:VR E w vw x v)(hx:x.gI=true):isSlice v=true:=by
 cases x with
 |ref b p=>exact h.1
 |win b p o n=>exact h.1
 |sl s r y=>
  simp only[VR,Rd]at h;obtain⟨a,cap,h,_⟩:=h;simp only[AFW,AGN]at h;rw[h];rfl
 |nil=>cases h;rfl
 |_=>cases hx
theorem lk{E:Env}{σ:St}{a:Act}{w:World}(h:Rel E σ a w)(b j:Nat):Rel E (σ.forget b j) a w∧σ.bx.length≤(σ.forget b j).bx.length∧(∀i:Nat,σ.bx[i]? =some Bx.dead→(σ.forget b j).bx[i]? =some Bx.dead)∧(σ.forget b j).tm=σ.tm:=by
 unfold St.forget;split
 case h_2=>simp_all
 rename_i cs hb;split
 case h_2=>simp_all
 rename_i x hx;split
 case isFalse=>simp_all
 rename_i hs;have hbl:=(ADa.1 hb).1;have hk:M8 E w σ.bx E w (σ.bx.set b (.mem (cs.set j (.ref σ.bx.length [])))++[.dead]):=by
  refine⟨by simp,fun _ _=>rfl,fun _ h=>h,fun _ h=>h,h.bx.st,fun _ _=>rfl,fun c d r rows hc e=> ?_⟩;grind
 refine⟨⟨h.ID,h.tm.imp fun _ _ hx=>JS hk hx,?_⟩,by simp,fun i hi=> ?_,rfl⟩
 ·obtain⟨Fs,⟨hl,h1⟩,h2⟩:=h.bx
  refine⟨Fs++[[]],⟨by simp[hl],fun k B G hB hG=> ?_⟩,by simp_all⟩;by_cases hk2:k<σ.bx.length
  ·rw[AFJ (by simp_all)]at hB
   rw[AFJ (by omega)]at hG;by_cases hkb:b=k
   ·subst hkb
    rw[AGJ hk2]at hB;cases hB;obtain⟨rfl,arr,ty,fr,a1,a2,a3⟩:=h1 b _ G hb hG;refine⟨rfl,arr,ty,fr,a1,a2,?_⟩;have a4:X7 E w (σ.bx.set b (.mem (cs.set j (.ref σ.bx.length [])))++[.dead]) cs arr.toList:=a3.imp fun _ _ hv=>C2 hk hv
    obtain⟨v,hv,hvr⟩:=a3.get hx;have Ul:arr.toList.set j v=arr.toList:=by
     apply AGj;grind
    rw[←Ul];refine A5.set a4 ⟨g_ hvr hs,?_⟩;simp_all
   ·rw[AFx hkb]at hB
    have h3:=h1 k B G hB hG;cases B with
    |mem Wd=>
     obtain⟨rfl,arr,ty,fr,a1,a2,a3⟩:=h3;exact⟨rfl,arr,ty,fr,a1,a2,a3.imp fun _ _ hv=>C2 hk hv⟩
    |sl d0 r0 Lj=>exact h3
    |dead=>exact h3
  ·have hlen:=(ADa.1 hB).1
   simp only[AGr,List.length_set,AE7,AGi]at hlen;have hkk:k=σ.bx.length:=by omega
   subst hkk;rw[AFU (by simp)]at hB;rw[AFU (by omega)]at hG;simp[hl]at hB hG;subst hB hG;rfl
 grind
theorem Ok.forget{E0 E:Env}{w0 w:World}{N nb:Nat}{σ:St}{a:Act}(h:Ok E0 w0 N nb E σ a w)(b j:Nat):Ok E0 w0 N nb E (σ.forget b j) a w:=by
 obtain⟨h1,h2,h3,h4⟩:=lk h.rel b j;exact⟨h1,h.base,by rw[h4];exact h.tm,AGG h.gW h2,fun i hi hd=>h.ids i hi fun e=>hd (h3 i e)⟩
theorem Ok.Se{E0 E:Env}{w0 w:World}{N nb:Nat}{a:Act}{bs:List BP}{b:Nat}:∀(l:List AP) (j:Nat) {σ:St},Ok E0 w0 N nb E σ a w→Ok E0 w0 N nb E (Se bs b j l σ) a w
 |[],_,_,h=>h
 |p::l,j,σ,h=>by
  simp only[Fw.Se];refine Ok.Se l (j+1) ?_
  split
  ·split
   ·exact h.forget _ _
   omega
  omega
theorem Ok.ABB{E0 E:Env}{w0 w:World}{N nb:Nat}{a:Act}{bs:List BP}:∀(l:List (Nat×XP)) {σ:St},Ok E0 w0 N nb E σ a w→Ok E0 w0 N nb E (WB bs l σ) a w
 |[],_,h=>h
 |(i,p)::l,σ,h=>by
  simp only[WB];refine Ok.ABB l ?_
  split
  ·split
   ·exact h.Se _ _
   omega
  omega
theorem Ok.VE{E0:Env}{w0 w:World}{N nb:Nat}{a:Act}:∀(l:List (AP ⊕ List AP)) (xs:List (AV ⊕ List AV)) {E:Env} {σ:St},Ok E0 w0 N nb E σ a w→ ∃E',Ok E0 w0 N nb E' (VE l xs σ) a w:=by
 intro l xs E σ h
 induction l generalizing xs E σ with
 |nil=>unfold Fw.VE;exact⟨E,h⟩
 |cons p l ih=>
  unfold Fw.VE;split
  ·rename_i heq
   cases heq;obtain⟨E',h'⟩:=h.DO _ _;exact ih _ h'
  ·rename_i heq
   cases heq;obtain⟨E',h'⟩:=h.DO _ _;exact ih _ h'
  ·rename_i heq
   cases heq;exact ih _ h
  ·exact⟨E,h⟩
theorem Ok.ZX{E0 E:Env}{w0 w:World}{N nb:Nat}{σ:St}{a:Act}(h:Ok E0 w0 N nb E σ a w)(l:List (Nat×XP))(x:XV):∃E',Ok E0 w0 N nb E' (ZX l x σ) a w:=by
 unfold Fw.ZX;split
 ·unfold AAv
  split
  ·exact h.DO _ _
  ·exact h.DO _ _
  ·exact h.VE _ _
  ·exact⟨E,h⟩
 ·exact⟨E,h⟩
include hT in
theorem fV{E0 E:Env}{w0 w:World}{N:Nat}{σ:St}{a:Act}{u:c.outs.V}(h:Ok E0 w0 N c.ins.C6.length E σ a w)(e:fL C.T c fn.results.toList σ=some u):
  a.defers=[]∧ ∃v,(results fn a.tmps).run P w= .ok v w∧yd c E0 w0 u (.returned v) w:=by
 unfold fL at e;simp only[ADc,ADV]at e;obtain⟨x0,_,x,e1,⟨u',m⟩,e2,rfl⟩:=e;obtain⟨E,h⟩:=h.ZX c.outs.Bh x0;revert h e1 e2
 generalize Fw.ZX c.outs.Bh x0 σ=σ
 intro e1 e2 h;obtain⟨v,h1,h2⟩:=ez hT h.rel e1;obtain⟨E,h,nr,h4⟩:=h.opens c.outs
 replace h2:=h4 _ _ h2
 obtain⟨hext,E1,hf⟩:=ZY (tm:=[x]) (vals:=[v]) h.rel.bx ⟨h2,trivial⟩ nr XQ dM e2;obtain⟨E2,q1,q2,q3,q4,q5⟩:=hf.shared h.rel.bx;refine⟨h.rel.ID,v,h1,v,E2,rfl,h.base.trans q3,q4,q5,fun i hi nv=> ?_⟩;obtain⟨p,hp,hg⟩:∃p,c.outs.C6[i]? =some p∧p≠ .gone:=by
  unfold alive at nv;cases hh:c.outs.C6[i]? with
  |none=>rw[hh]at nv;cases nv
  |some p=>
   refine⟨p,rfl,fun hp=> ?_⟩;rw[hh,hp]at nv;cases nv
 have X5:=hext.2 i i (by have:=XU (i:=0) (n:=c.ins.C6.length) hp hg (by omega);simpa using this);obtain⟨b,B,g1,g2,g3,_⟩:=hD e2 i p hp hg;rw[X5]at g1;cases g1;have hid:=hf.ids i i X5;have pz:=h.ids i hi (fun hd=>by rw[g2]at hd;cases hd;exact g3 rfl);rw[q1,q2];exact⟨hid.1.trans pz.1,hid.2.trans pz.2⟩
include hT hΓ hm in
theorem o7{code:Code}(hb:fn.body=some code)(hl:(labels code).Nodup){J:Nat→Nat→St→Option c.outs.V}(hJ:mK C c fn code J)
  {E0:Env} {w0:World} {u:c.outs.V} {Q:Zo} (hp:WY Q)
  (hg:Good E0 w0 fn.ntmps c.ins.C6.length u (fun _=>fL C.T c fn.results.toList) (fun _ _ _=>none) (fun _=>fL C.T c fn.results.toList) Q):
  ∀n,xM P E0 w0 fn.ntmps c.ins.C6.length u (J n) code Q:=by
 intro n
 induction n with
 |zero=>
  intro ℓ body Q' LX E σ a w h e;obtain⟨s,F,j1,j2,j3⟩:=hJ ℓ LX.label;rw[j1]at e;simp only[jump]at e;split at e
  ·rw[ADc]at e
   obtain⟨q,_,e⟩:=e;rw[j2]at e;cases e
  ·cases e
 |succ n ih=>
  intro ℓ body Q' LX E σ a w h e;obtain⟨s,F,j1,j2,j3⟩:=hJ ℓ LX.label;rw[j1]at e;simp only[jump]at e;split at e
  case isFalse=>cases e
  rename_i gW;rw[ADc]at e;obtain⟨⟨v,m⟩,e1,e2⟩:=e;dsimp only at e2;obtain⟨E,h⟩:=h.ADp (bs:=s.C6) s.Bh
  replace h:=h.ABB (bs:=s.C6) s.Bh
  revert h e1
  generalize WB s.C6 s.Bh (KB s.C6 s.Bh σ)=σ
  intro e1 h;obtain⟨E,h,nr,h4⟩:=h.opens s;obtain⟨hext,E1,hf⟩:=ZY h.rel.bx h.rel.tm nr XQ dM e1;obtain⟨E2,q1,q2,q3,q4,q5⟩:=hf.shared h.rel.bx;have LW:fn.ntmps=a.tmps.toList.length:=by rw[←A5.len h.rel.tm,h.tm]
  have KZ:Ok E0 w0 fn.ntmps c.ins.C6.length E2 (s.st fn.ntmps v) a w:=by
   refine⟨⟨h.rel.ID,Yk q5 (A5.undef LW),q4⟩,h.base.trans q3,?_,?_,fun i hi hd=> ?_⟩
   ·have:=A5.len (Yk q5 (A5.undef LW))
    simp only[Bl.st];rw[this,←LW]
   ·simp only[Bl.st]
    rw[NO];exact gW
   ·simp only[Bl.st]at hd
    have wD:s.C6[i]? =some (s.C6[i]'(by omega)):=ADU _;have hng:s.C6[i]'(by omega)≠ .gone:=fun lU=>by
     obtain⟨z,z1,_⟩:=VY id (u:=v.2) wD;apply hd;rw[z1]
     generalize s.C6[i]'(by omega)=pp at z lU
     subst lU;rfl
    have X5:=hext.2 i i (by have:=XU (i:=0) (n:=c.ins.C6.length) wD hng (by omega);simpa using this);obtain⟨b,B,g1,g2,g3,_⟩:=hD e1 i _ wD hng;rw[X5]at g1;cases g1;have hid:=hf.ids i i X5;have pz:=h.ids i hi (fun hd=>by rw[g2]at hd;cases hd;exact g3 rfl);rw[q1,q2];exact⟨hid.1.trans pz.1,hid.2.trans pz.2⟩
  have oe:=j3 n v u e2;obtain⟨kn',kx',kr',hfind,jP,hnp,hj⟩:=qe hT hΓ hm hl hp hg ih LX;simp only[TJ,hb,hfind]at oe;refine JB.rL (ku hT hΓ hm (hnp.then _) (kn:=fun _ σ=>J n ℓ σ) ⟨fun E σ a w h e=> ?_,fun id E σ a w h e=>jP.x id E σ a w h e,jP.r⟩ hj KZ oe);exact ih ℓ body Q' LX E σ a w h (e [])
include hT hΓ hm in
theorem pE{f:Nat}(hf:AAd P f fn c){J:Nat→Nat→St→Option c.outs.V}(hJ:∀code,fn.body=some code→mK C c fn code J)
  (hg:∀v u,c.g v=some u→ ∃n,∀ω,Rb C c fn (J n) ω v=some u):SO P f c:=by
 refine⟨hf.con,hf.call,fun E w v args u Fh hB hS hgv=> ?_⟩;obtain⟨n,hn⟩:=hg v u hgv;cases hb:fn.body with
 |none=>
  have:=hn [];simp only[Rb,hb]at this;cases this
 |some code=>
  simp only[Rb,hb]at hn;refine calls_of_wp hf.at_ hb ?_
  have hp:WY (bodyPost P fn (yd c E w u)):=fun ch a w' hq=>by
   obtain⟨_,x,E',hx,_⟩:=hq;cases hx
  have jP:Good E w fn.ntmps c.ins.C6.length u (fun _=>fL C.T c fn.results.toList) (fun _ _ _=>none) (fun _=>fL C.T c fn.results.toList) (bodyPost P fn (yd c E w u)):=
   ⟨fun E' σ a w' h e=>fV hT h (e []),fun id E' σ a w' h e=>(by cases e []),fun E' σ a w' h e=>fV hT h (e [])⟩
  have KZ:Ok E w fn.ntmps c.ins.C6.length E (c.ins.st fn.ntmps v) { tmps:=args++Array.replicate (fn.ntmps-args.size) undef,defers:=[] } w:=by
   have xA:A5 (XR E w (EM.mk id c.ins.C6 v.2)) (DC.mk id c.ins.Bh v.1 (List.replicate fn.ntmps (.c .undef))) (args++Array.replicate (fn.ntmps-args.size) undef).toList:=by
    rw[Array.toList_append];refine Yk (XN hS) (A5.undef ?_);have:=hf.tmps;simp;omega
   refine⟨⟨rfl,xA,hB⟩,Wz.refl E w,?_,by simp only[Bl.st];rw[NO];exact AF2 _,fun _ _ _=>⟨rfl,rfl⟩⟩;simp only[Bl.st];rw[A5.len xA];have:=hf.tmps;simp;omega
  exact ku hT hΓ hm hp jP (o7 hT hΓ hm hb (hf.labels code hb) (hJ code hb) hp jP n) KZ hn
end
end Go.Fw
end
section
namespace Go.Fw
def B9:List Ty→Ty
 |[]=> .unit
 |c::l=> .cons c (B9 l)
def j7(row:TypeId→Option (List Ty×Bool))(cells:TypeId→Nat):Nat→List Field→Option (List Ty)
 |_,[]=>some []
 |o,f::fs=>
  match row f.type with
  |some (l,_)=>if f.offset=o∧cells f.type=l.length then(j7 row cells (o+l.length) fs).map (l++ ·)else none
  |none=>none
def ZC:List Ty×Bool→Ty
 |(l,true)=>B9 l
 |([c],false)=>c
 |_=> .unit
def rowOf(P:Program):Nat→TypeId→Option (List Ty×Bool)
 |0,_=>none
 |n+1,t=>
  match P.underlying t with
  |some (.int k)=>some ([.int k],false)
  |some .bool=>some ([.bool],false)
  |some .string=>some ([.str],false)
  |some (.slice e)=>
   match rowOf P n e with
   |some q=>if P.cellsOf e=q.1.length∧0<q.1.length then some ([.sl (ZC q)],false)else none
   |none=>none
  |some (.struct fs)=>
   match j7 (rowOf P n) P.cellsOf 0 fs.toList with
   |some l=>if P.cellsOf t=l.length then some (l,true)else none
   |none=>none
  |_=>none
def Vd:(t:Ty)→t.D→Prop
 | .int k,x=>(Lit.int k x).wf=true
 | .bool,_=>True
 | .str,x=>List.length x≤maxLen
 | .sl r,x=>List.length x≤maxLen∧ ∀y∈x,Vd r y
 | .unit,_=>True
 | .cons c r,x=>Vd c x.1∧Vd r x.2
theorem Yo{α:Type}{p:Nat→α→Prop}:∀{n:Nat},(∀i,i<n→ ∃y,p i y)→ ∃x:List α,x.length=n∧ ∀(i:Nat) y,x[i]? =some y→p i y
 |0,_=>⟨[],rfl,fun i y h=>by simp at h⟩
 |n+1,h=>by
  obtain⟨x,h1,h2⟩:=Yo (n:=n) (p:=p) (fun i hi=>h i (by omega));obtain⟨y,hy⟩:=h n (by omega);refine⟨x++[y],by simp[h1],fun i z hz=> ?_⟩;grind
theorem fU{w:World}{B:Nat→Prop}:∀{l m:List Ty} {cs ds:List Value} {x:(B9 l).D} {y:(B9 m).D},Rd w B (B9 l) cs x→Rd w B (B9 m) ds y→Vd (B9 l) x→Vd (B9 m) y→
  ∃z:(B9 (l++m)).D,Rd w B (B9 (l++m)) (cs++ds) z∧Vd (B9 (l++m)) z
 |[],m,cs,ds,x,y,h,k,hx,hy=>by
  simp only[B9,Rd]at h;subst h;exact⟨y,k,hy⟩
 |c::l,m,cs,ds,x,y,h,k,hx,hy=>by
  simp only[B9,Rd]at h;obtain⟨v,r,rfl,h1,h2⟩:=h;obtain⟨z,z1,z2⟩:=fU h2 k hx.2 hy;exact⟨(x.1,z),by simp only[AFI,B9,Rd];exact⟨v,r++ds,rfl,h1,z1⟩,hx.1,z2⟩
theorem nS{P:Program}{n:Nat}{t:TypeId}{l:List Ty}(h:rowOf P n t=some (l,false)):∃c,l=[c]:=by
 cases n with
 |zero=>simp[rowOf]at h
 |succ n=>
  simp only[rowOf]at h;grind
theorem iF{w:World}{B:Nat→Prop}{P:Program}{n:Nat}{t:TypeId}{q:List Ty×Bool}(h:rowOf P n t=some q){cs:List Value}{x:(B9 q.1).D}(hx:Rd w B (B9 q.1) cs x)(hv:Vd (B9 q.1) x):
  (ZC q).n=q.1.length∧ ∃y:(ZC q).D,Rd w B (ZC q) cs y∧Vd (ZC q) y:=by
 obtain⟨l,b⟩:=q;cases b with
 |true=>
  refine⟨?_,x,hx,hv⟩;clear h hx hv x;simp only[ZC]
  induction l with
  |nil=>rfl
  |cons c l ih=>simp[B9,Ty.n,ih]
 |false=>
  obtain⟨c,rfl⟩:=nS h;simp only[B9,Rd]at hx;obtain⟨v,r,rfl,h1,h2⟩:=hx;subst h2;refine⟨?_,x.1,h1,hv.1⟩;have:=ZP h1;grind[ZC]
theorem np(a:Addr):a.add 0=a:=by rfl
theorem mc{w:World}{a:Addr}{v:Value}(h:w.cell? a=some v):a.spot=none:=by
 unfold World.cell? at h;split at h
 all_goals simp_all
section
variable{H:Type} {enc:TypeId×Value→H} {P:Program} {w:World} {spare:Nat→Bool} {held:Bool}
theorem Wv:∀(n:Nat) {t:TypeId} {q:List Ty×Bool},rowOf P n t=some q→ ∀{fuel:Nat} {cs:List Value} {x:DataW H×List MemPlace},DataW.trod enc P w 0 spare held fuel t cs=some x→
  ∃y:(B9 q.1).D,Rd w (fun b=>b<w.heap.size) (B9 q.1) cs y∧Vd (B9 q.1) y
 |0,t,q,h,_,_,_,_=>by simp[rowOf]at h
 |n+1,t,q,h,fuel,cs,x,hx=>by
  simp only[rowOf]at h;split at h
  ·rename_i k hu
   cases h;obtain⟨m,rfl,_,hw⟩:=DataW.trod_int hu hx;exact⟨(m,()),by simp[B9,Rd],hw,trivial⟩
  ·rename_i hu
   cases h;obtain⟨b,rfl,_⟩:=DataW.trod_bool hu hx;exact⟨(b,()),by simp[B9,Rd],trivial,trivial⟩
  ·rename_i hu
   cases h;obtain⟨s,rfl,_,hs⟩:=DataW.trod_string hu hx;refine⟨(s.data.toList,()),by simp[B9,Rd],?_,trivial⟩
   show s.data.toList.length≤maxLen
   simp_all
  ·rename_i e hu
   split at h
   case h_2=>cases h
   rename_i q' hq';split at h
   case isFalse=>cases h
   rename_i oD;cases h;rcases DataW.trod_slice hu hx with⟨rfl,_⟩|⟨a,len,cap,elems,rest,m,_,rfl,_,_,hlc,hcm,WQ,LX,_,_⟩
   ·refine⟨([],()),?_,⟨by simp,by simp⟩,trivial⟩
    simp only[B9,Rd];simp_all
   ·have each:∀i,i<len→ ∃y:(ZC q').D,Vd (ZC q') y∧ ∃ds,ds.length=(ZC q').n∧(∀j,j<ds.length→w.cell? ((a.add (i*P.cellsOf e)).add j)=ds[j]?)∧Rd w (fun b=>b<w.heap.size) (ZC q') ds y:=by
     intro i hi;have hz:elems[i]? =some (elems[i]'(by omega)):=ADU _;have h1:=LX i hi;rw[hz,ADc]at h1;obtain⟨ds,hds,htr⟩:=h1;obtain⟨z,z1,z2⟩:=Wv n hq' htr;obtain⟨_,c1,c2⟩:=World.cells?_some hds
     grind[iF]
    obtain⟨xs,x1,x2⟩:=Yo each;refine⟨(xs,()),?_,⟨by grind,fun y hy=> ?_⟩,trivial⟩
    ·simp only[B9,Rd]
     refine⟨_,[],rfl,⟨_,cap,by rw[x1],by omega,?_⟩,rfl⟩;by_cases h0:len=0
     ·omega
     right
     obtain⟨y0,_,ds0,d0,d1,_⟩:=each 0 (by omega);have yO:0<(ZC q').n:=by
      rw[d0.symm];have hz:elems[0]? =some (elems[0]'(by omega)):=ADU _;have h1:=LX 0 (by omega);rw[hz,ADc]at h1;obtain⟨ds,hds,htr⟩:=h1;obtain⟨z,z1,z2⟩:=Wv n hq' htr;grind[iF]
     have yX:=d1 0 (by omega);simp only[Nat.zero_mul,np]at yX;have wo:w.cell? a=some (ds0[0]'(by omega)):=by simp_all
     have hsp:=mc wo;obtain⟨b,o,s⟩:=a;simp only at hsp;subst hsp;refine⟨b,o,rfl,?_,fun i y hy=> ?_⟩
     ·grind[World.cell?,Array.getElem?_eq_some_iff]
     ·have hil:=(ADa.1 hy).1
      obtain⟨_,ds,e0,e1,e2⟩:=x2 i y hy;have hcn:P.cellsOf e=(ZC q').n:=by
       have hz:elems[i]? =some (elems[i]'(by omega)):=ADU _;have h1:=LX i (by omega);rw[hz,ADc]at h1;obtain⟨ds,hds,htr⟩:=h1;obtain⟨z,z1,z2⟩:=Wv n hq' htr;grind[iF]
      refine⟨ds,e0,fun j v hj=> ?_,e2⟩;grind[List.getElem?_eq_some_iff,Addr.add_eq]
    ·obtain⟨i,hi,rfl⟩:=AGD hy
     exact(x2 i _ (ADU hi)).1
  ·rename_i fs hu
   split at h
   case h_2=>cases h
   rename_i l hl;split at h
   case isFalse=>cases h
   rename_i qF;cases h;obtain⟨xs,m,_,_,hlen,hxs,LX⟩:=DataW.trod_struct hu hx;have key:∀(fs:List Field) (o:Nat) (l:List Ty) (i0:Nat),j7 (rowOf P n) P.cellsOf o fs=some l→cs.length=o+l.length→(∀(i:Nat) (f:Field),fs[i]? =some f→ ∃z,DataW.trod enc P w 0 spare held m f.type ((cs.drop f.offset).take (P.cellsOf f.type))=some z)→
     ∃y:(B9 l).D,Rd w (fun b=>b<w.heap.size) (B9 l) (cs.drop o) y∧Vd (B9 l) y:=by
    intro fs
    induction fs with
    |nil=>
     intro o l i0 hl hc _;simp only[j7,ADS]at hl;subst hl;refine⟨(),?_,trivial⟩;simp only[B9,Rd];simp_all
    |cons f fs ih=>
     intro o l i0 hl hc LX;simp only[j7]at hl;split at hl
     case h_2=>cases hl
     rename_i l1 b1 hr;split at hl
     case isFalse=>cases hl
     rename_i hof;simp only[ADV]at hl;obtain⟨l2,kI,rfl⟩:=hl;obtain⟨z,hz⟩:=LX 0 f rfl;obtain⟨y1,a1,a2⟩:=Wv n hr hz;obtain⟨y2,b1,b2⟩:=ih (o+l1.length) l2 0 kI (by grind) (fun i f hf=>LX (i+1) f (by simp_all));grind[fU,List.drop_drop,List.take_append_drop]
   have:=key fs.toList 0 l 0 hl (by omega) (fun i f hf=>by
    grind)
   simp_all
  simp_all
end
end Go.Fw
end
section
open Go.RowKit
namespace Go.Fw
def Zp(W:World):Env:={ Du:=fun _=>0,EK:=fun _=> .nilFunc,T:=fun b=>b<W.heap.size,S:=fun b=>b<W.heap.size }
abbrev cM:Bl:=⟨[(0,.c (.v .bool))],[]⟩
theorem mb{P:Program}{f:Nat}{Bh:List (Nat×XP)}{g:Bl.V ⟨Bh,[]⟩→Option cM.V}(hs:SO P f ⟨⟨Bh,[]⟩,cM,g⟩){W:World}{args:Array Value}(x:DC.V Bh)(hlen:args.size=Bh.length)
  (hx:G2 (Zp W) W [] id Bh x args.toList) (hg:g (x,())=some ((true,()),())):Calls P f args W fun e W' =>e= .returned (.bool true)∧Below W.heap.size W W':=by
 obtain⟨_,_,h⟩:=hs;refine(h (Zp W) W (x,()) args _ hlen ⟨[],⟨rfl,fun k B F h=>by simp_all⟩,by simp,by simp,by simp,fun _ h=>h,fun _ h=>h⟩ hx hg).mono fun e W' hR=> ?_
 obtain⟨v,E',rfl,base,_,⟨⟨v',hv,hxr⟩,_⟩,_⟩:=hR;simp at hv;subst hv;have:v= .bool true:=by
  have h2:VR E' W' [] (.v .bool true) v:=hxr;exact L7 h2
 subst this;exact⟨rfl,base.os,base.tape,base.output,base.size,fun k hk=>base.heap k hk⟩
theorem pN{W:World}{vw:List Bx}{l:List Ty}(hl:l.all Ty.cell=true){cs:Array Value}{y:(B9 l).D}(h:Rd W (fun b=>b<W.heap.size) (B9 l) cs.toList y):XR (Zp W) W vw (XP.mk id (.row (B9 l)) y) (.agg cs):=by
 refine⟨cs,rfl,?_⟩;have key:∀(l:List Ty) (cs:List Value) (y:(B9 l).D),l.all Ty.cell=true→Rd W (fun b=>b<W.heap.size) (B9 l) cs y→X7 (Zp W) W vw (Ym (B9 l) y) cs:=by
  intro l
  induction l with
  |nil=>
   intro cs y _ h;simp only[B9,Rd]at h;subst h
   trivial
  |cons c l ih=>
   intro cs y hc h;simp only[AGV,AEE]at hc;simp only[B9,Rd]at h;obtain⟨v,r,rfl,h1,h2⟩:=h;refine⟨?_,ih r y.2 hc.2 h2⟩;cases c with
   |sl q=>exact h1
   |int k=>exact⟨rfl,by simpa[Rd]using h1⟩
   |bool=>exact⟨rfl,by simpa[Rd]using h1⟩
   |str=>exact⟨rfl,by simpa[Rd]using h1⟩
   |unit=>simp[Ty.cell]at hc
   |cons c r=>simp[Ty.cell]at hc
 simp_all
theorem zr{W:World}{vw:List Bx}{t:Ty}(ht:t.scalar=true){v:Value}{y:t.D}(h:Rd W (fun b=>b<W.heap.size) t [v] y):XR (Zp W) W vw (XP.mk id (.c (.v t)) y) v:=by
 refine⟨ht,?_⟩;cases t<;>simp_all[Ty.scalar,Rd]
end Go.Fw
end
section
namespace Go.Fw
def iu:List (Nat×Sf)→Nat→Option Sf
 |[],_=>none
 |(f,c)::l,g=>if f=g then some c else iu l g
def ux(P:Program):List (Nat×Sf)→Prop
 |[]=>True
 |q::l=>SO P q.1 q.2∧ux P l
theorem dB{P:Program}:∀{l:List (Nat×Sf)},ux P l→Xi P (iu l)
 |[],_=>fun f c e=>by cases e
 |(g,d)::l,h=>fun f c e=>by
  simp only[iu]at e;split at e
  ·rename_i hg
   cases e;subst hg;exact h.1
  ·exact dB h.2 f c e
theorem cV{P:Program}{f:Nat}{fn:Func}(hf:P.funcs[f]? =some fn)(hn:(fn.name== "runtime.NumGoroutine")=false)(hb:fn.body.isNone=false)(args:Array Value)(w:World):
  (callFunc f args).run P w= .ok (.enter f args) w:=by
 have h1:fn.name≠ "runtime.NumGoroutine" :=by simp_all
 have h2:fn.body≠none:=by
  grind
 simp[callFunc,hf,h1,h2]
def YC(fn:Func)(c:Sf):Bool:=
 !(
  fn.name== "runtime.NumGoroutine")&& !fn.body.isNone&&c.ok&&decide (c.ins.Bh.length≤fn.ntmps)&&(match fn.body with
  |some code=>decide (labels code).Nodup
  |none=>true)
theorem AEs{P:Program}{f:Nat}{fn:Func}{c:Sf}(hf:P.funcs[f]? =some fn)(h:YC fn c=true):AAd P f fn c:=by
 simp only[YC,AEE,AGl,AEe]at h;obtain⟨⟨⟨⟨h1,h2⟩,h3⟩,h4⟩,h5⟩:=h;refine⟨hf,cV hf h1 h2,h3,h4,fun code hc=> ?_⟩;simp_all
def X3(C:bV)(c:Sf)(fn:Func)(J:Nat→Nat→St→Option c.outs.V):List Nat→Prop
 |[]=>True
 | ℓ ::l=>(∃(s:Bl) (F:Nat→s.V→Option c.outs.V),(∀n,J n ℓ =jump c.ins.C6.length s (F n))∧(∀v,F 0 v=none)∧
  ∀n v,∀ω,TJ C c fn (J n) ℓ ω (s.st fn.ntmps v)=F (n+1) v)∧X3 C c fn J l
theorem X3.ok{C:bV}{c:Sf}{fn:Func}{J:Nat→Nat→St→Option c.outs.V}:∀{l:AAF},X3 C c fn J l→ ∀ ℓ ∈l,∃(s:Bl) (F:Nat→s.V→Option c.outs.V),(∀n,J n ℓ =jump c.ins.C6.length s (F n))∧(∀v,F 0 v=none)∧
  ∀n v y,F (n+1) v=some y→ ∀ω,TJ C c fn (J n) ℓ ω (s.st fn.ntmps v)=some y
 |[],_,ℓ,h=>by cases h
 |k::l,hl,ℓ,h=>by
  rcases AGO.1 h with rfl|h
  ·obtain⟨⟨s,F,h1,h2,h3⟩,_⟩:=hl
   exact⟨s,F,h1,h2,fun n v y e ω=>(h3 n v ω).trans e⟩
  ·exact X3.ok hl.2 ℓ h
def Yl(fn:Func):AAF:=
 match fn.body with
 |some code=>labels code
 |none=>[]
def Nb:List ACR→Nat→List Nat
 |[],_=>[]
 |(r,h)::l,q=>if r=q then h else Nb l q
theorem pR{P:Program}{T:FI}{l:List (Nat×Sf)}{hint:Nat→List Nat}{f:Nat}{fn:Func}{c:Sf}(hT:Cq P T)(hm:P.follows .mixedOrders=true)(hf:P.funcs[f]? =some fn)(hl:ux P l)(hc:YC fn c=true)
  {J:Nat→Nat→St→Option c.outs.V} {L:AAF} (hL:Yl fn=L) (hJ:X3 ⟨T,iu l,hint⟩ c fn J L) (n:Nat) (he:∀ω v,Rb ⟨T,iu l,hint⟩ c fn (J n) ω v=c.g v):SO P f c:=
 pE (C:=⟨T,iu l,hint⟩) hT (dB hl) hm (AEs hf hc) (J:=J) (fun code hb ℓ hℓ =>X3.ok hJ ℓ (by
  grind[Yl])) fun v u hg=>⟨n,fun ω=>(he ω v).trans hg⟩
end Go.Fw
end
section
namespace Go.Fw
def B5:List (Nat×XP)→Bool
 |[]=>true
 |(_,.c (.v _))::l=>B5 l
 |(_,.LI [])::l=>B5 l
 |_::_=>false
theorem MD{E E':Env}{w w':World}{vw vw':List Bx}:∀{l:List (Nat×XP)} {x:DC.V l} {vals:List Value},B5 l=true→G2 E w vw id l x vals→G2 E' w' vw' id l x vals
 |[],_,_,_,_=>trivial
 |(i,.c (.v t))::l,x,vals,h,k=>by
  obtain⟨⟨v,hv,hx⟩,k⟩:=k;exact⟨⟨v,hv,bp (E:=E) (E':=E') (vw:=vw) (vw':=vw') (t:=t) hx⟩,MD (l:=l) (by simpa[B5]using h) k⟩
 |(i,.LI [])::l,x,vals,h,k=>by
  obtain⟨⟨v,hv,hx⟩,k⟩:=k;refine⟨⟨v,hv,?_⟩,MD (l:=l) (by simpa[B5]using h) k⟩;obtain⟨vs,e,RQ⟩:=hx;refine⟨vs,e,?_⟩;cases hq:vs.toList with
  |nil=>trivial
  |cons _ _=>rw[hq]at RQ;exact RQ.elim
 |(i,.c (.sl _ _))::l,_,_,h,_=>by simp[B5]at h
 |(i,.c .nil)::l,_,_,h,_=>by simp[B5]at h
 |(i,.c (.ref _))::l,_,_,h,_=>by simp[B5]at h
 |(i,.c (.ptr _ _))::l,_,_,h,_=>by simp[B5]at h
 |(i,.c (.dz _))::l,_,_,h,_=>by simp[B5]at h
 |(i,.c (.fn _ _))::l,_,_,h,_=>by simp[B5]at h
 |(i,.c .any)::l,_,_,h,_=>by simp[B5]at h
 |(i,.c (.UA _ _))::l,_,_,h,_=>by simp[B5]at h
 |(i,.c (.Xw _ _ _))::l,_,_,h,_=>by simp[B5]at h
 |(i,.agg _)::l,_,_,h,_=>by simp[B5]at h
 |(i,.row _)::l,_,_,h,_=>by simp[B5]at h
 |(i,.LI (_::_))::l,_,_,h,_=>by simp[B5]at h
abbrev Xv(d:Nat)(q:Ty)(rest:List (Nat×XP)):Bl:=⟨(0,.c (.ref 0))::rest,[.sl d q]⟩
abbrev Wm(d:Nat)(q:Ty)(outs:List (Nat×XP)):Bl:=⟨outs,[.sl d q]⟩
abbrev lE(d:Nat)(r:Ty)(sz:Nat)(rest:List (Nat×XP)):Bl:=⟨(0,.c (.UA 0 sz))::rest,[.sl d r]⟩
def wM(d:Nat)(q:Ty)(rest outs:List (Nat×XP))(g:(Xv d q rest).V→Option (Wm d q outs).V)(d':Nat)(r:Ty)(sz:Nat)(v:(lE d' r sz rest).V):Option (Wm d' r outs).V:=
 (DK r v.2.1 [⟨v.1.1.1,sz,v.1.1.2⟩]).bind fun s=>(J3 (β:=fun r=>List r.D) s.1 q s.2).bind fun ys=>
  (g (((),v.1.2),(ys,()))).bind fun u=>(bL r v.2.1 [⟨v.1.1.1,sz,v.1.1.2⟩] q u.2.1).map fun rows=>(u.1,(rows,()))
theorem XW{w:World}{S:Nat→Prop}{d d':Nat}:∀{r:Ty} {cs:List Value} {x:r.D} {G:AAF},r.flat=true→Ow w S d r cs x G→Ow w S d' r cs x G
 | .cons c r,cs,x,G,h,hr=>by
  simp only[Ty.flat,AEE]at h;simp only[Ow]at hr⊢;obtain⟨v,l,F1,F2,h1,h2,h3,h4⟩:=hr;exact⟨v,l,F1,F2,h1,h2,XW h.1 h3,XW h.2 h4⟩
 | .unit,_,_,_,_,hr=>by grind[Ow]
 | .int k,_,_,_,_,hr=>by grind[Ow]
 | .bool,_,_,_,_,hr=>by grind[Ow]
 | .str,_,_,_,_,hr=>by grind[Ow]
 | .sl q,_,_,_,h,_=>by simp[Ty.flat]at h
theorem Yu{w:World}{S:Nat→Prop}{d d':Nat}{q:Ty}(h:q.flat=true∨d=d')(hd:1≤d)(hd':1≤d'){v:Value}{rows:List q.D}{F:AAF}(ho:Ow w S d (.sl q) [v] rows F):Ow w S d' (.sl q) [v] rows F:=by
 rcases h with h|rfl
 ·obtain⟨d,rfl⟩:∃n,d=n+1:=⟨d-1,by omega⟩
  obtain⟨d',rfl⟩:∃n,d' =n+1:=⟨d'-1,by omega⟩;grind[Ow,XW]
 omega
def fg(d:Nat)(q:Ty)(rest outs:List (Nat×XP))(d':Nat)(r:Ty)(sz:Nat):Bool:=
 B5 rest&&B5 outs&&(q.flat||decide (d=d'-1))&&decide (1≤d)&&decide (2≤d')&&ZW [.sl d' r] outs&&decide (1≤outs.length)
theorem HE{P:Program}{f d:Nat}{q:Ty}{rest outs:List (Nat×XP)}{g:(Xv d q rest).V→Option (Wm d q outs).V}(hs:SO P f ⟨Xv d q rest,Wm d q outs,g⟩){d':Nat}{r:Ty}{sz:Nat}
  (hc:fg d q rest outs d' r sz=true) {g':(lE d' r sz rest).V→Option (Wm d' r outs).V} (hg:∀v u,g' v=some u→wM d q rest outs g d' r sz v=some u):SO P f ⟨lE d' r sz rest,Wm d' r outs,g'⟩:=by
 simp only[fg,AEE,AGH,AEe]at hc;obtain⟨⟨⟨⟨⟨⟨c1,c2⟩,c3⟩,c4⟩,c5⟩,c6⟩,c7⟩:=hc;obtain⟨KZ,aF,hsound⟩:=hs;refine⟨?_,aF,fun E w v args u hlen hB hS hgu=> ?_⟩
 ·simp only[Sf.ok,kinds,AEE,AEe,true_and,AGV,List.all_nil,BP.Gw,AGX]
  omega
 ·simp only at v u hlen hB hS hgu
  replace hgu:=hg _ _ hgu
  simp only[wM,ADc,ADV]at hgu;obtain⟨⟨q0,ys0⟩,hget,ys,hys,u0,hgc,BG,Ul,rfl⟩:=hgu;obtain⟨hq,e4⟩:=DX hys;dsimp only at hq hys Ul;subst hq;subst e4;dsimp only at hgc Ul;obtain⟨⟨a0,ha0,hv0⟩,hrest⟩:=hS;obtain⟨Fs,⟨f1,f2⟩,f3⟩:=hB;simp only[EM.mk,BP.mk,AE7,AGi]at f1 f2;obtain⟨F,rfl⟩:∃F,Fs=[F]:=by
   match Fs,f1 with
   |[F],_=>simp_all
  obtain⟨hd1,how⟩:=f2 0 _ F rfl rfl;simp only[AGL,AGU,AFp]at f3;have hv:VR E w [.sl d' r v.2.1] (.ref 0 [⟨v.1.1.1,sz,v.1.1.2⟩]) a0:=hv0;simp only[VR,AGW]at hv;obtain⟨vo,hpath,_,YR⟩:=hv;obtain⟨h',F1,F2,m1,m2,m3,m4⟩:=YF how hpath hget (by grind);rw[YR]at m1;cases m1;have ACH:q0.flat=true∨d'-[(⟨v.1.1.1,sz,v.1.1.2⟩:Y_)].length=d:=by
   grind
  have m2':=Yu ACH (by grind) c4 m2;have nd:(F1++F2).Nodup:=m3.nodup_iff.1 f3.nodup;have inF:∀c,c∈F1++F2→c∈F:=fun c hc=>m3.mem_iff.2 hc
  let E1:Env:={ Du:=E.Du,EK:=fun n=>if n=0 then a0 else E.EK n,T:=fun c=>E.T c∨c∈F2,S:=E.S }
  have hB1:BR E1 w (EM.mk id (Xv d q0 rest).C6 (ys0,())) (EM.mk id (Xv d q0 rest).C6 (ys0,())) []:=by
   refine⟨[F1],⟨rfl,fun k B G hB hG=> ?_⟩,?_⟩
   ·cases k with
    |zero=>
     simp only[EM.mk,BP.mk,AGW,ADS]at hB hG;subst hB hG;exact⟨c4,by grind⟩
    |succ k=>simp_all
   ·simp only[AGL,AGU,AFp]
    refine⟨(AEO.1 nd).1,fun c hc hT=> ?_,fun c hc=>f3.lt c (inF c (by simp[hc])),fun c hc=> .inl (f3.st c hc),fun c hc=> ?_⟩
    ·rcases hT with hT|hT
     ·exact f3.free c (inF c (by simp[hc])) hT
     grind
    ·rcases hc with hc|hc
     ·exact f3.W3 c hc
     ·exact f3.lt c (inF c (by simp[hc]))
  have hS1:G2 E1 w (EM.mk id (Xv d q0 rest).C6 (ys0,())) id (Xv d q0 rest).Bh ((),v.1.2) args.toList:=by
   refine⟨⟨a0,ha0,?_⟩,MD c1 hrest⟩
   show VR E1 w [.sl d q0 ys0] (.ref 0 []) a0
   simp only[VR,AGW];exact⟨vo,by simp[BU],⟨_,rfl⟩,by rfl⟩
  refine(hsound E1 w (((),v.1.2),(ys0,())) args u0 hlen hB1 hS1 hgc).mono fun e w' hR=> ?_
  obtain⟨x,E',rfl,base,⟨Gs,⟨g1,g2⟩,g3⟩,Bh,lG⟩:=hR;have hid:=lG 0 (by simp) (by rfl);obtain⟨G,rfl⟩:∃G,Gs=[G]:=by
   simp only[EM.mk,AE7,AGi]at g1
   match Gs,g1 with
   |[G],_=>simp_all
  obtain⟨_,kf⟩:=g2 0 _ G rfl rfl;simp only[AGL,AGU,AFp]at g3;have hh:E'.EK 0=a0:=by grind
  rw[hh]at kf;have wG:=Yu (d':=d'-[(⟨v.1.1.1,sz,v.1.1.2⟩:Y_)].length) (ACH.imp id Eq.symm) c4 (by grind) kf;obtain⟨F',p1,p2⟩:=m4 w' E'.S u0.2.1 G BG (fun c hc=>base.S c hc) (fun c hc=>base.heap c (.inl (f3.st c hc))) (fun c hc=>base.heap c (.inr hc)) wG Ul
  let E2:Env:={ Du:=E.Du,EK:=E.EK,T:=fun c=>E.T c∨E'.S c,S:=E'.S }
  have nm:∀c,E2.T c→E'.T c:=fun c hc=>hc.elim (fun h=>base.T c (.inl h)) (fun h=>g3.st c h)
  refine⟨x,E2,rfl,⟨fun c hc=> .inl hc,fun c hc=>base.S c hc,fun c hc=>hc,fun c hc=>(base.kJ c hc).imp id (fun h h' =>h (.inl h')),fun c hc=>base.heap c (.inl hc),base.os,base.tape,base.output,base.size⟩,?_,MD c2 Bh,fun i hi nv=>⟨rfl,rfl⟩⟩;refine⟨[F'],⟨rfl,fun k B H hB hH=> ?_⟩,?_⟩
  ·cases k with
   |zero=>
    simp only[EM.mk,BP.mk,AGW,ADS]at hB hH;subst hB hH;exact⟨by omega,p2⟩
   |succ k=>simp_all
  ·simp only[AGL,AGU,AFp]
   have ADb:∀c∈F2,E'.T c:=fun c hc=>base.T c (.inr hc)
   refine⟨?_,fun c hc hT=> ?_,fun c hc=> ?_,fun c hc=> .inr hc,fun c hc=> ?_⟩
   ·rw[p1.nodup_iff,AEO]
    refine⟨g3.nodup,(AEO.1 nd).2.1,fun a ha b hb e=> ?_⟩;subst e;exact g3.free a ha (ADb a hb)
   ·rcases AFt.1 (p1.mem_iff.1 hc)with hc|hc
    ·exact g3.free c hc (nm c hT)
    ·rcases hT with hT|hT
     ·exact f3.free c (inF c (by simp[hc])) hT
     ·rcases base.kJ c hT with h|h
      ·exact f3.free c (inF c (by simp[hc])) (f3.st c h)
      grind
   ·rcases AFt.1 (p1.mem_iff.1 hc)with hc|hc
    ·exact g3.lt c hc
    ·exact AF3 (f3.lt c (inF c (by simp[hc]))) base.size
   ·exact g3.W3 c (nm c hc)
end Go.Fw
end
section
namespace Go.M
abbrev Ej:Nat:=Go.Fw.Ej
def AX(x:Int):Int:=IntKind.wrap .i64 x
def w8(x:Int):Int:=IntKind.wrap .u8 x
def o8(κ:IntKind)(a b:Int):Int:=κ.wrap (BitVec.ofInt κ.bits a &&& BitVec.ofInt κ.bits b).toNat
theorem ct:∃n:Nat,2^64≤n:=⟨_,AF2 _⟩
noncomputable def AL:Nat:=Classical.choose ct
theorem YV:2^64≤AL:=Classical.choose_spec ct
end Go.M
end
section
namespace Go.Fw
structure SP (P:Program) where
 f:Nat
 c:Sf
 h:SO P f c
def SP.l{P:Program}:List (SP P)→List (Nat×Sf)
 |[]=>[]
 |s::l=>(s.f,s.c)::SP.l l
theorem l_{P:Program}:∀l:List (SP P),ux P (SP.l l)
 |[]=>trivial
 |s::l=>⟨s.h,l_ l⟩
@[reducible] def AP.Cu (R:Type):AP→Type
 | .gU _ rs=>T5 rs→R
 | .v t=>t.D→R
 | .sl _ r=>List r.D→R
 | .dz r=>r.D→R
 | .UA _ _=>Nat×Nat→R
 | .Xw _ _ _=>Nat→R
 |_=>R
def AP.un{R:Type}:(p:AP)→p.Cu R→p.V→R
 | .gU _ _,f,x=>f x
 | .v _,f,x=>f x
 | .sl _ _,f,x=>f x
 | .dz _,f,x=>f x
 | .UA _ _,f,x=>f x
 | .Xw _ _ _,f,x=>f x
 | .nil,f,_=>f
 | .ref _,f,_=>f
 | .ptr _ _,f,_=>f
 | .fn _ _,f,_=>f
 | .any,f,_=>f
@[reducible] def Ss.Cu (R:Type):List AP→Type
 |[]=>R
 |p::l=>p.Cu (Ss.Cu R l)
def Ss.un{R:Type}:(l:List AP)→Ss.Cu R l→Ss.V l→R
 |[],f,_=>f
 |p::l,f,x=>Ss.un l (p.un f x.1) x.2
@[reducible] def TA.Cu (R:Type):List (AP ⊕ List AP)→Type
 |[]=>R
 | .inl p::l=>p.Cu (TA.Cu R l)
 | .inr q::l=>Ss.Cu (TA.Cu R l) q
def TA.un{R:Type}:(l:List (AP ⊕ List AP))→TA.Cu R l→TA.V l→R
 |[],f,_=>f
 | .inl p::l,f,x=>TA.un l (p.un f x.1) x.2
 | .inr q::l,f,x=>TA.un l (Ss.un q f x.1) x.2
@[reducible] def XP.Cu (R:Type):XP→Type
 | .c p=>p.Cu R
 | .agg l=>Ss.Cu R l
 | .row r=>r.D→R
 | .LI l=>TA.Cu R l
def XP.un{R:Type}:(p:XP)→p.Cu R→p.V→R
 | .c p,f,x=>p.un f x
 | .agg l,f,x=>Ss.un l f x
 | .row _,f,x=>f x
 | .LI l,f,x=>TA.un l f x
@[reducible] def BP.Cu (R:Type):BP→Type
 | .mem l=>Ss.Cu R l
 | .sl _ r=>List r.D→R
 | .gone=>R
def BP.un{R:Type}:(p:BP)→p.Cu R→p.V→R
 | .mem l,f,x=>Ss.un l f x
 | .sl _ _,f,x=>f x
 | .gone,f,_=>f
@[reducible] def DC.Cu (R:Type):List (Nat×XP)→Type
 |[]=>R
 |(_,p)::l=>p.Cu (DC.Cu R l)
def DC.un{R:Type}:(l:List (Nat×XP))→DC.Cu R l→DC.V l→R
 |[],f,_=>f
 |(_,p)::l,f,x=>DC.un l (p.un f x.1) x.2
@[reducible] def EM.Cu (R:Type):List BP→Type
 |[]=>R
 |p::l=>p.Cu (EM.Cu R l)
def EM.un{R:Type}:(l:List BP)→EM.Cu R l→EM.V l→R
 |[],f,_=>f
 |p::l,f,x=>EM.un l (p.un f x.1) x.2
@[reducible] def Bl.Cu (s:Bl) (R:Type):Type:=DC.Cu (EM.Cu R s.C6) s.Bh
def Bl.un{R:Type}(s:Bl)(f:s.Cu R)(v:s.V):R:=EM.un s.C6 (DC.un s.Bh f v.1) v.2
structure Lp (o:Bl) where
 ℓ :Nat
 s:Bl
 F:Nat→s.Cu (Option o.V)
def bK{o:Bl}(nb:Nat):List (Lp o)→Nat→Nat→St→Option o.V
 |[],_,_,_=>none
 |p::l,n,ℓ,σ=>if ℓ =p.ℓ then jump nb p.s (p.s.un (p.F n)) σ else bK nb l n ℓ σ
inductive Rh (C:bV) (c:Sf) (fn:Func) (J:Nat→Nat→St→Option c.outs.V):List (Lp c.outs)→Prop
 |nil:Rh C c fn J []
 |cons {ℓ :Nat} {s:Bl} {F:Nat→s.Cu (Option c.outs.V)} {l:List (Lp c.outs)} (h0:∀v,s.un (F 0) v=none) (h1:∀n v ω,TJ C c fn (J n) ℓ ω (s.st fn.ntmps v)=s.un (F (n+1)) v) (h:Rh C c fn J l):Rh C c fn J (⟨ℓ,s,F⟩::l)
def Lp.ls{o:Bl}:List (Lp o)→List Nat
 |[]=>[]
 |p::l=>p.ℓ ::Lp.ls l
theorem o0{o:Bl}{nb:Nat}:∀{l:List (Lp o)} (n:Nat) {ℓ :Nat} (p:Lp o) (pre:List (Lp o)),ℓ =p.ℓ →(Lp.ls (pre++p::l)).Nodup→bK nb (pre++p::l) n ℓ =jump nb p.s (p.s.un (p.F n))
 |l,n,ℓ,p,[],e,_=>by
  funext σ
  simp[bK,e]
 |l,n,ℓ,p,q::pre,e,hn=>by
  funext σ
  have hq: ℓ ≠q.ℓ :=by
   intro h;simp only[AFI,Lp.ls,AG5]at hn;refine hn.1 ?_
   rw[←h,e];clear hn h e
   induction pre with
   |nil=>simp[Lp.ls]
   |cons a m ih=>simp[Lp.ls,ih]
  have:=congrFun (o0 (nb:=nb) (l:=l) n p pre e (by grind[Lp.ls,List.nodup_cons])) σ;simp only[AFI,bK,AEK hq];omega
theorem Rh.ok{C:bV}{c:Sf}{fn:Func}{nb:Nat}(hb:nb=c.ins.C6.length){L:List (Lp c.outs)}(hn:(Lp.ls L).Nodup):∀{l pre:List (Lp c.outs)},L=pre++l→Rh C c fn (bK nb L) l→X3 C c fn (bK nb L) (Lp.ls l)
 |[],_,_,_=>trivial
 |⟨ℓ,s,F⟩::l,pre,e,.cons h0 h1 h=>by
  refine⟨⟨s,fun n=>s.un (F n),fun n=> ?_,h0,fun n v ω=>h1 n v ω⟩,Rh.ok hb hn (pre:=pre++[⟨ℓ,s,F⟩]) (by simp[e]) h⟩;subst hb;rw[e];exact o0 n ⟨ℓ,s,F⟩ pre rfl (by simp_all)
def mkP{P:Program}{T:FI}(hT:Cq P T)(hm:P.follows .mixedOrders=true){f:Nat}{fn:Func}(hf:P.funcs[f]? =some fn)(i o:Bl)(g:i.Cu (Option o.V))(l:List (SP P))(h:List ACR)(L:List (Lp o))(n:Nat)
  (hL:Yl fn=Lp.ls L) (hd:decide (Lp.ls L).Nodup=true) (hc:YC fn ⟨i,o,i.un g⟩=true)
  (hJ:Rh ⟨T,iu (SP.l l),Nb h⟩ ⟨i,o,i.un g⟩ fn (bK i.C6.length L) L)
  (he:∀ω v,Rb ⟨T,iu (SP.l l),Nb h⟩ ⟨i,o,i.un g⟩ fn (bK i.C6.length L n) ω v=i.un g v):SP P:=
 ⟨f,⟨i,o,i.un g⟩,pR (l:=SP.l l) hT hm hf (l_ l) hc (J:=bK i.C6.length L) (L:=Lp.ls L) hL (Rh.ok rfl (by simp_all) (pre:=[]) rfl hJ) n he⟩
theorem AD{Q:List Bool→Prop}(a:Q [])(b:∀ω,Q (false::ω))(d:∀ω,Q (true::ω)):∀ω,Q ω
 |[]=>a
 |false::ω=>b ω
 |true::ω=>d ω
end Go.Fw
end
