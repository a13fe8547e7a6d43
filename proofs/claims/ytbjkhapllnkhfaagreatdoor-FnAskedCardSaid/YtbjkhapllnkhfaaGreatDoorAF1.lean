/- The framework, part 2: a checked interpreter of the model's code over abstract states; no claim is made here. -/
import Derived.Test.YtbjkhapllnkhfaaGreatDoorAF0
import Derived.Below
import Derived.ChangeArms
import Derived.ChangeOld
import Derived.DataReads
import Derived.Handed
import Derived.LaidLaws
import Derived.Lib.AtoiAll
import Derived.Lib.IndexMore
import Derived.Lib.ItoaNum
import Derived.Lib.SlicesS
import Derived.Lib.Strings
import Derived.MakeChecks
import Derived.OrdersHeld
import Derived.Shelf.Slices.Delete
import Derived.Shelf.Slices.Turned
import Derived.Shelf.Spec.SlicesInsertGrow
import Derived.Shelf.Strconv.Itoa3
import Derived.Shelf.Strings.Cut
import Derived.Shelf.Strings.Prefix
import Derived.Shelf.Strings.Search3
import Derived.Stop.LaidErr
import Derived.Tactics
set_option linter.unusedVariables false
set_option linter.unusedSimpArgs false
set_option linter.unusedSectionVars false
section
namespace Go.Fw
def alive(l:List BP)(i:Nat):Bool:=
 match l[i]? with
 |some .gone=>false
 |some _=>true
 |none=>false
def AP.Mq(l:List BP):AP->Bool
 | .sl s _=>s
 | .uT _=>false
 | .sH _ _=>false
 | .yP _ _=>false
 | .ref i=>decide (i<l.length)
 | .ptr i _=>alive l i
 | .fn _ Lc=>Lc.all (alive l)
 |_=>true
def XP.Mq(l:List BP):XP->Bool
 | .c p=>p.Mq l
 | .agg q=>q.all (AP.Mq l)
 | .NM q=>q.all fun| .inl p=>p.Mq l| .inr q=>q.all (AP.Mq l)
 | .row _=>false
def BP.Mq(l:List BP):BP->Bool
 | .mem q=>q.all (AP.Mq l)
 |_=>true
def kinds:List BP->List BP->Bool
 |[],_=>true
 | .mem _::l,.mem _::m=>kinds l m
 | .sl _ r::l,.sl _ q::m=>decide (r=q)&&kinds l m
 | .mem _::l,.gone::m=>kinds l m
 | .sl _ _::l,.gone::m=>kinds l m
 |_,_=>false
def rU(l:List BP):List (Nat×XP)->Bool
 |[(0,p)]=>p.Mq l
 |_=>false
def Rt.ok(c:Rt):Bool:=
 kinds c.ins.Hg c.outs.Hg&&rU c.outs.Hg c.outs.EK&&c.outs.Hg.all (BP.Mq c.outs.Hg)
theorem bz:∀{l m:List BP},kinds l m=true->l.length<=m.length/\ ∀(i:Nat) p,l[i]? =some p->p≠ .gone/\ ∀d r,m[i]? =some (.sl d r)-> ∃d',p= .sl d' r
 |[],m,_=>⟨by simp,fun i p h=>by simp at h⟩
 | .gone::l,[],h=>by simp[kinds]at h
 | .gone::l,_::_,h=>by simp[kinds]at h
 | .mem _::l,[],h=>by simp[kinds]at h
 | .sl _ _::l,[],h=>by simp[kinds]at h
 | .mem q::l,.mem _::m,h=>by
  obtain⟨h1,h2⟩:=bz (l:=l) (m:=m) (by simpa[kinds]using h);grind
 | .mem q::l,.gone::m,h=>by
  obtain⟨h1,h2⟩:=bz (l:=l) (m:=m) (by simpa[kinds]using h);grind
 | .mem q::l,.sl _ _::m,h=>by simp[kinds]at h
 | .sl d0 r0::l,.sl _ q::m,h=>by
  simp only[kinds,AL8,AM7]at h;obtain⟨h1,h2⟩:=bz (l:=l) (m:=m) h.2;grind
 | .sl d0 r0::l,.gone::m,h=>by
  obtain⟨h1,h2⟩:=bz (l:=l) (m:=m) (by simpa[kinds]using h);grind
 | .sl _ _::l,.mem _::m,h=>by simp[kinds]at h
def Nj(P:Program)(f:Nat)(c:Rt):Prop:=
 c.ok=true/\(∀args w,(callFunc f args).run P w= .ok (.enter f args) w)/\
 ∀(E:Env) (w:World) (v:c.ins.V) (args:Array Value) (u:c.outs.V),args.size=c.ins.EK.length->
  DG E w (KJ.mk id c.ins.Hg v.2) (KJ.mk id c.ins.Hg v.2) []->Np E w (KJ.mk id c.ins.Hg v.2) id c.ins.EK v.1 args.toList->c.g v=some u->
  Calls P f args w fun e w' => ∃x E',e= .returned x/\j6 E w E' w'/\DG E' w' (KJ.mk id c.outs.Hg u.2) (KJ.mk id c.outs.Hg u.2) []/\
   Np E' w' (KJ.mk id c.outs.Hg u.2) id c.outs.EK u.1 [x]/\ ∀i,i<c.ins.Hg.length->alive c.outs.Hg i=true->E'.Iz i=E.Iz i/\E'.I0 i=E.I0 i
theorem ou:∀x:AV,HY [] x=x
 | .ref b (s::p)=>by rfl
 | .ref b []=>rfl
 | .win b (s::p) i n=>by rfl
 | .win b [] i n=>rfl
 | .Kc b (s::p) i sz j=>by rfl
 | .Kc b [] i sz j=>rfl
 | .v _ _=>rfl
 | .sl _ _ _=>rfl
 | .nil=>rfl
 | .JR _ _=>rfl
 | .RR _ _ _ _=>rfl
 | .fn _ _=>rfl
 | .yP _ _=>rfl
 | .AEX=>rfl
 | .undef=>rfl
theorem ei:HY []=id:=funext ou
theorem ABD:∀x:XV,X1 [] x=x
 | .c x=>by simp[X1,ou]
 | .agg l=>by simp[X1,ei]
 | .NM l=>by
  simp only[X1,ei];congr 1
  conv=>rhs;rw[<-List.map_id l]
  apply ATO;intro x _;cases x with
  |inl x=>simp
  |inr q=>simp
theorem zr(m:Rn)(σ:St):(σ.fV m).tm=σ.tm.map (X1 m):=by
 cases m with
 |nil=>
  simp only[St.fV];have:X1 []=id:=funext ABD;simp_all
 |cons _ _=>rfl
theorem AHd(m:Rn)(σ:St):(σ.fV m).bx=σ.bx.map (Bx.map (HY m)):=by
 cases m with
 |nil=>grind[St.fV,ei,gK]
 |cons _ _=>
  rfl
theorem ky(f:AV->AV):∀(m:Rn) (bx:List Bx),DD (bx.map (Bx.map f)) m=(DD bx m).map (Bx.map f)
 |[],_=>rfl
 |none::m,bx=>by simp only[DD];exact ky f m bx
 |some b::m,bx=>by
  simp only[DD];rw[<-ky f m (bx.set b .dead),List.map_set];rfl
theorem T9:∀{m:Rn} {bx:List Bx} {b:Nat},some b∉m->(DD bx m)[b]? =bx[b]?
 |[],_,_,_=>rfl
 |none::m,bx,b,h=>by simp only[DD];exact T9 (by simp_all)
 |some c::m,bx,b,h=>by
  simp only[DD];rw[T9 (by simp_all),AQF (by grind)]
theorem AIQ{E E':Env}{w w':World}{vw vw':List Bx}{m:Rn}(k:V0 E w vw E' w' (DD vw' m))
  (hb:∀b d' r rows',some b∈m->vw'[b]? =some (.sl d' r rows')-> ∃d rows,vw[b]? =some (.sl d r rows)/\List.length rows' =List.length rows/\E'.I0 b=E.I0 b) (hlen:vw.length<=vw'.length) {x:AV} {v:Value} (h:VR E w vw x v):VR E' w' vw' (HY m x) v:=by
 have h1:=G4 k h;have js:∀{b'},some b'∉m->(DD vw' m)[b']? =vw'[b']?:=fun e=>T9 e
 have get:∀{b'},b'<vw.length-> ∃B,vw'[b']? =some B:=fun hl=>⟨_,ALk (by omega)⟩
 cases x with
 |v t x=>exact h1
 |sl s r x=>exact h1
 |nil=>exact h1
 |JR c j=>exact⟨by simpa[LX]using h1.1,h1.2⟩
 |RR s r x j=>exact h1
 |fn f Lc=>exact⟨fun c hc=>by simpa[LX]using h1.1 c hc,h1.2⟩
 |yP f rows=>exact h1
 |AEX=>exact h1
 |undef=>trivial
 |ref c p=>
  have other:some c∉m->VR E' w' vw' (.ref c p) v:=fun e=>by
   grind[VR]
  cases p with
  |nil=>
   simp only[HY];by_cases e:some c∈m
   ·simp only[VR]at h|-
    obtain⟨h0,h⟩:=h;refine⟨h0,?_⟩;cases hc:vw[c]? with
    |none=>simp_all
    |some B=>
     obtain⟨B',XC⟩:=get (AL1.1 hc).1;rw[XC];cases B' with
     |mem cs=>trivial
     |dead=>trivial
     |sl d' r rows' =>
      obtain⟨d,rows,e1,e2,e3⟩:=hb c d' r rows' e XC;rw[e1]at h;refine⟨by simp[DQ],⟨_,rfl⟩,?_⟩;grind[DC]
   simp_all
  |cons s p=>
   simp only[HY];split
   ·trivial
   simp_all
 |win c p off n=>
  have other:some c∉m->VR E' w' vw' (.win c p off n) v:=fun e=>by
   grind[VR]
  cases p with
  |nil=>
   simp only[HY];by_cases e:some c∈m
   ·simp only[VR]at h|-
    obtain⟨h0,h⟩:=h;refine⟨h0,?_⟩;cases hc:vw[c]? with
    |none=>simp_all
    |some B=>
     obtain⟨B',XC⟩:=get (AL1.1 hc).1;rw[XC];cases B' with
     |mem cs=>trivial
     |dead=>trivial
     |sl d' r rows' =>
      obtain⟨d,rows,e1,e2,e3⟩:=hb c d' r rows' e XC;rw[e1]at h;obtain⟨_,q,ys,a,len,cap,g1,g2,g3,g4⟩:=h;simp only[Hp,ALl,AN3]at g1;obtain⟨rfl,g1⟩:=g1;obtain rfl:=APR g1;rw[DC]at g3;exact⟨by simp[DQ],r,rows',a,len,cap,rfl,by omega,by grind[DC],g4⟩
   simp_all
  |cons s p=>
   simp only[HY];split
   ·trivial
   simp_all
 |Kc c p i sz j=>
  have other:some c∉m->VR E' w' vw' (.Kc c p i sz j) v:=fun e=>by
   grind[VR]
  cases p with
  |nil=>
   simp only[HY];by_cases e:some c∈m
   ·simp only[VR]at h|-
    obtain⟨h0,h⟩:=h;refine⟨h0,?_⟩;cases hc:vw[c]? with
    |none=>simp_all
    |some B=>
     obtain⟨B',XC⟩:=get (AL1.1 hc).1;rw[XC];cases B' with
     |mem cs=>trivial
     |dead=>trivial
     |sl d' r rows' =>
      obtain⟨d,rows,e1,e2,e3⟩:=hb c d' r rows' e XC;rw[e1]at h;obtain⟨_,q,ys,bb,o,len,cap,g1,g2,g3,g4⟩:=h;simp only[Hp,ALl,AN3]at g1;obtain⟨rfl,g1⟩:=g1;obtain rfl:=APR g1;rw[DC]at g3;exact⟨by simp[DQ],r,rows',bb,o,len,cap,rfl,by omega,by grind[DC],g4⟩
   simp_all
  |cons s p=>
   simp only[HY];split
   ·trivial
   simp_all
theorem AHl{E E':Env}{w w':World}{vw vw':List Bx}{m:Rn}(k:∀x v,VR E w vw x v->VR E' w' vw' (HY m x) v){x:XV}{v:Value}(h:XR E w vw x v):XR E' w' vw' (X1 m x) v:=by
 cases x with
 |c x=>exact k x v h
 |agg l=>
  obtain⟨vs,rfl,Zu⟩:=h;exact⟨vs,rfl,Cr.M6 _ k Zu⟩
 |NM l=>
  obtain⟨vs,rfl,Zu⟩:=h;refine⟨vs,rfl,Cr.M6 _ (fun x v hx=> ?_) Zu⟩;cases x with
  |inl x=>exact k x v hx
  |inr q=>
   obtain⟨us,rfl,hus⟩:=hx;exact⟨us,rfl,Cr.M6 _ k hus⟩
def M1(Kb:Nat->Nat):Nat->List Bx->List Bx->List Bx
 |_,[],bx=>bx
 |i,B::l,bx=>M1 Kb (i+1) l (if Kb i<bx.length then bx.set (Kb i) B else bx++[B])
theorem s8(Kb:Nat->Nat):∀(i:Nat) (l:List BP) (x:KJ.V l) (bx:List Bx),ft Kb i l x bx=M1 Kb i (KJ.mk Kb l x) bx
 |_,[],_,_=>rfl
 |i,p::l,x,bx=>by simp only[ft,KJ.mk,M1];exact s8 Kb (i+1) l x.2 _
structure ADv (Kb:Nat->Nat) (M N:Nat):Prop where
 lt:∀k,k<M->Kb k<N
 eq:∀k,M<=k->Kb k=N+(k-M)
 inj:∀k k',k<M->k'<M->Kb k=Kb k'->k=k'
theorem ADv.ATy{Kb:Nat->Nat}{M N:Nat}(h:ADv Kb M N){k k':Nat}(e:Kb k=Kb k'):k=k':=by
 by_cases h1:k<M
 ·by_cases h2:k'<M
  ·exact h.inj k k' h1 h2 e
  ·have:=h.lt k h1
   have:=h.eq k' (by omega);omega
 ·by_cases h2:k'<M
  ·have:=h.lt k' h2
   have:=h.eq k (by omega);omega
  ·have:=h.eq k (by omega)
   have:=h.eq k' (by omega);omega
theorem mb{Kb:Nat->Nat}{M N:Nat}(h:ADv Kb M N):∀{l:List Bx} {i:Nat} {bx:List Bx},bx.length=N+(i-M)->
  (M1 Kb i l bx).length=N+(i+l.length-M)/\(∀(j:Nat) B,l[j]? =some B->(M1 Kb i l bx)[Kb (i+j)]? =some B)/\
   ∀n,n<bx.length->(∀j,j<l.length->Kb (i+j)≠n)->(M1 Kb i l bx)[n]? =bx[n]?
 |[],i,bx,hl=>⟨by grind[M1],fun j B hj=>by simp_all,fun _ _ _=>rfl⟩
 |B::l,i,bx,hl=>by
  simp only[M1];have pc:(if Kb i<bx.length then bx.set (Kb i) B else bx++[B]).length=N+(i+1-M):=by
   split
   ·rename_i JN
    by_cases hi:i<M
    ·grind
    ·have:=h.eq i (by omega);omega
   ·rename_i JN
    by_cases hi:i<M
    ·have:=h.lt i hi;omega
    grind
  have gH:(if Kb i<bx.length then bx.set (Kb i) B else bx++[B])[Kb i]? =some B:=by
   split
   ·simp_all
   ·rename_i JN
    by_cases hi:i<M
    ·grind
    ·have:=h.eq i (by omega)
     grind
  obtain⟨q1,q2,q3⟩:=mb h (l:=l) pc;refine⟨by grind,fun j C hj=> ?_,fun n hn jt=> ?_⟩
  ·cases j with
   |zero=>
    simp at hj;subst hj;exact(q3 (Kb i) (AL1.1 gH).1 (fun j hj e=>by have:=h.ATy e;omega)).trans gH
   |succ j=>
    grind
  ·have AaH:=jt 0 (by simp)
   rw[ATL]at AaH;rw[q3 n (by omega) (fun j hj=>by have:=jt (j+1) (by simp_all);grind)];grind
theorem lI{Kb:Nat->Nat}{M N:Nat}(h:ADv Kb M N){E:Env}{w:World}{vw:List Bx}:∀{l:List Bx} {i:Nat} {bx:List Bx} {Fs:List ABu},bx.length=N+(i-M)->(∀k,i<=k->k<M->bx[Kb k]? =some .dead)->
  Fs.length=l.length->(∀(j:Nat) B F,l[j]? =some B->Fs[j]? =some F->xu E w vw (Kb (i+j)) B F)->DG E w vw bx Fs.flatten->DG E w vw (M1 Kb i l bx) []
 |[],i,bx,Fs,hl,hd,hF,hB,hbx=>by
  grind[List.eq_nil_of_length_eq_zero,M1]
 |B::l,i,bx,F::Fs,hl,hd,hF,hB,hbx=>by
  simp only[M1];have hBi:=hB 0 B F rfl rfl;rw[ATL]at hBi;have next:∀{TW},TW.length=N+(i+1-M)->(∀k,i+1<=k->k<M->TW[Kb k]? =some .dead)->DG E w vw TW Fs.flatten->DG E w vw (M1 Kb (i+1) l TW) []:=by
   intro TW h1 h2 h3;refine lI h h1 h2 (by simp_all) (fun j C G hC hG=> ?_) h3;have:=hB (j+1) C G (by simp_all) (by simp_all);grind
  rw[ATP]at hbx;by_cases hi:i<M
  ·have JN:=h.lt i hi
   rw[ALi (by omega)];refine next (by grind) (fun k hk1 hk2=> ?_) (hbx.put (hd i (AOd _) hi) hBi);rw[AQF (fun e=>by have:=h.ATy e;omega)];grind
  ·have heq:=h.eq i (by omega)
   rw[ALj (by omega)];have e1:Kb i=bx.length:=by omega
   rw[e1]at hBi;exact next (by grind) (fun k hk1 hk2=>by omega) (hbx.push hBi)
 |_::_,_,_,[],_,_,hF,_,_=>by simp_all
structure AAW (E' E2:Env) (l:List BP) (u:KJ.V l) (vw2:List Bx) (Kb:Nat->Nat):Prop where
 ids:∀i,alive l i=true->E2.Iz (Kb i)=E'.Iz i/\E2.I0 (Kb i)=E'.I0 i
 bx:∀(i:Nat) p,l[i]? =some p-> ∃y,(KJ.mk id l u)[i]? =some (p.mk id y)/\vw2[Kb i]? =some (p.mk Kb y)
 S:E2.S=E'.S
theorem gi(Kb:Nat->Nat):∀{l:List BP} {u:KJ.V l} {i:Nat} {p:BP},l[i]? =some p-> ∃y:p.V,(KJ.mk id l u)[i]? =some (p.mk id y)/\(KJ.mk Kb l u)[i]? =some (p.mk Kb y)
 |q::l,u,0,p,h=>by
  simp at h;subst h;exact⟨u.1,rfl,rfl⟩
 |q::l,u,i+1,p,h=>by
  obtain⟨y,h1,h2⟩:=gi Kb (u:=u.2) (i:=i) (by simpa using h);grind[KJ.mk]
 |[],_,_,_,h=>by simp at h
theorem W_(Kb:Nat->Nat):∀{l:List BP} {u:KJ.V l},(KJ.mk Kb l u).length=l.length
 |[],_=>rfl
 |_::l,u=>by simp[KJ.mk,W_ Kb (l:=l)]
section
variable{E' E2:Env} {w:World} {l:List BP} {u:KJ.V l} {vw2:List Bx} {Kb:Nat->Nat} (r:AAW E' E2 l u vw2 Kb)
include r
omit r in
theorem zq{i:Nat}(h:alive l i=true):∃p,l[i]? =some p/\p≠ .gone:=by
 unfold alive at h;cases e:l[i]? with
 |none=>rw[e]at h;cases h
 |some p=>
  refine⟨p,rfl,fun hp=> ?_⟩;rw[e,hp]at h;cases h
theorem AE_{p:AP}{y:p.V}{v:Value}(Du:p.Mq l=true)(h:VR E' w (KJ.mk id l u) (p.mk id y) v):VR E2 w vw2 (p.mk Kb y) v:=by
 cases p with
 |v t=>exact h
 |sl s q=>
  simp only[AP.Mq]at Du;subst Du;simp only[AP.mk,VR,AQm]at h|-;rw[r.S];omega
 |nil=>exact h
 |ref i=>
  simp only[AP.Mq,AM7]at Du;obtain⟨p,hp⟩:∃p,l[i]? =some p:=⟨_,ALk Du⟩;obtain⟨z,z1,z2⟩:=r.bx i p hp;simp only[AP.mk,VR,id]at h|-;refine⟨h.1,?_⟩;have h2:=h.2;rw[z1]at h2;rw[z2];cases p with
  |mem q=>trivial
  |gone=>trivial
  |sl d q=>
   have hid:=(r.ids i (by simp[alive,hp])).2;grind[BP.mk]
 |ptr i j=>
  simp only[AP.Mq]at Du;obtain⟨p,hp,hg⟩:=zq Du;obtain⟨z,z1,z2⟩:=r.bx i p hp;refine⟨(AL1.1 z2).1,?_⟩;rw[(r.ids i Du).1];exact h.2
 |uT q=>simp[AP.Mq]at Du
 |sH i sz=>simp[AP.Mq]at Du
 |yP f rs=>simp[AP.Mq]at Du
 |fn f Lc=>
  simp only[AP.Mq,ASm]at Du;obtain⟨h1,h2⟩:=h;refine⟨fun b hb=> ?_,?_⟩
  ·obtain⟨i,hi,rfl⟩:=ATM.1 hb
   obtain⟨p,hp,_⟩:=zq (Du i hi);obtain⟨z,_,z2⟩:=r.bx i p hp;grind
  ·rw[h2,ATa]
   congr 2
   rw[ATa];apply ATO;intro i hi;simp only[Function.comp,id,(r.ids i (Du i hi)).1]
 |any=>trivial
theorem vL:∀{q:List AP} {y:cy.V q} {vs:List Value},q.all (AP.Mq l)=true->oU E' w (KJ.mk id l u) (cy.mk id q y) vs->oU E2 w vw2 (cy.mk Kb q y) vs
 |[],_,[],_,_=>trivial
 |[],_,_::_,_,h=>h.elim
 |p::q,y,[],_,h=>h.elim
 |p::q,y,v::vs,Du,h=>by
  simp only[ASy,AL8]at Du;exact⟨AE_ r Du.1 h.1,vL Du.2 h.2⟩
theorem ABr:∀{q:List (AP ⊕ List AP)} {y:dU.V q} {vs:List Value},(q.all fun| .inl p=>p.Mq l| .inr q=>q.all (AP.Mq l))=true->Cr (TR E' w (KJ.mk id l u)) (dU.mk id q y) vs->Cr (TR E2 w vw2) (dU.mk Kb q y) vs
 |[],_,[],_,_=>trivial
 |[],_,_::_,_,h=>h.elim
 | .inl p::q,y,[],_,h=>h.elim
 | .inr p::q,y,[],_,h=>h.elim
 | .inl p::q,y,v::vs,Du,h=>by
  simp only[ASy,AL8]at Du;exact⟨AE_ r Du.1 h.1,ABr Du.2 h.2⟩
 | .inr p::q,y,v::vs,Du,h=>by
  simp only[ASy,AL8]at Du;obtain⟨us,e,hus⟩:=h.1;exact⟨⟨us,e,vL r Du.1 hus⟩,ABr Du.2 h.2⟩
theorem ARC{p:XP}{y:p.V}{v:Value}(Du:p.Mq l=true)(h:XR E' w (KJ.mk id l u) (p.mk id y) v):XR E2 w vw2 (p.mk Kb y) v:=by
 cases p with
 |c p=>exact AE_ r Du h
 |agg q=>
  obtain⟨vs,e,Zu⟩:=h;exact⟨vs,e,vL r Du Zu⟩
 |row q=>simp[XP.Mq]at Du
 |NM q=>
  obtain⟨vs,e,Zu⟩:=h;exact⟨vs,e,ABr r Du Zu⟩
theorem ASl{i:Nat}{p:BP}{y:p.V}{F:ABu}(hi:l[i]? =some p)(Du:p.Mq l=true)(h:xu E' w (KJ.mk id l u) i (p.mk id y) F):xu E2 w vw2 (Kb i) (p.mk Kb y) F:=by
 cases p with
 |mem q=>
  obtain⟨h1,arr,ty,fr,h2,h3,h4⟩:=h;have hid:=(r.ids i (by simp[alive,hi])).1;exact⟨by simp_all,arr,ty,fr,by simp_all,h3,vL r Du h4⟩
 |sl d q=>
  obtain⟨h1,h2⟩:=h;refine⟨h1,?_⟩;rw[(r.ids i (by simp[alive,hi])).2,r.S];omega
 |gone=>exact h
end
end Go.Fw
end
section
namespace Go.Fw
theorem ABU{s:BK}{N:Nat}{m0 m:Rn}{tm:List XV}{bx:List Bx}{x:s.V}(e:s.fit N m0 tm bx=some (x,m)):∀(k:Nat) p,s.Hg[k]? =some p->p≠ .gone-> ∃b B,m[k]? =some (some b)/\bx[b]? =some B/\B≠ .dead/\
  ∀d r,p= .sl d r-> ∃d' rows,B= .sl d' r rows:=by
 simp only[BK.fit,AMp,ALs]at e;obtain⟨m1,e1,m2,e2,a,e3,c,e4,e5⟩:=e;cases e5;obtain⟨q1,q2⟩:=U4 (Kb:=id) e4;grind
theorem AKc(n:Nat):wN (List.replicate n none):=fun i j b h=>by
 grind
theorem AEk{w:World}{B B':Nat->Prop}{w':World}{r:Ty}{v:Value}{x y:List r.D}(h:Rd w B (.sl r) [v] x)(h':Rd w' B' (.sl r) [v] y):y.length=x.length:=by
 grind[Rd]
section
variable{Y:Type} {P:Program} {E:Env} {σ:St} {a:Act} {w:World} {k:K Y} {y:Y}
theorem zK{E' E2:Env}{l:List BP}{u:KJ.V l}{vw2:List Bx}{Kb:Nat->Nat}(r:AAW E' E2 l u vw2 Kb):∀{sl:List (Nat×XP)} {z:G5.V sl} {x:Value},
  rU l sl=true->Np E' w (KJ.mk id l u) id sl z [x]->XR E2 w vw2 (lV sl z Kb) x
 |[(0,p)],z,x,Du,h=>by
  obtain⟨⟨v,hv,hx⟩,_⟩:=h;simp at hv;subst hv;exact ARC r Du hx
 |[],_,_,Du,_=>by simp[rU]at Du
 |(_+1,_)::_,_,_,Du,_=>by simp[rU]at Du
 |(0,_)::_::_,_,_,Du,_=>by simp[rU]at Du
def lu(c:Rt)(xs:List XV)(σ:St):ABu:=
 match c.ins.fit σ.bx.length c.ins.m0 xs (c.ins.opens σ.bx)with
 |some (_,m)=>m.filterMap id
 |none=>[]
theorem z_(h:Rel E σ a w)(s:BK):∃E',Rel E' { σ with bx:=s.opens σ.bx } a w/\UC [] E σ.bx w E' (s.opens σ.bx) w/\(∀(i:Nat) d r,s.Hg[i]? =some (.sl d r)->E'.I0 (σ.bx.length+i)= .slice none 0 0)/\
  (∀x v,XR E w σ.bx x v->XR E' w (s.opens σ.bx) x v):=by
 let E':Env:={ E with I0:=fun k=>if k<σ.bx.length then E.I0 k else .slice none 0 0 }
 have hlen:σ.bx.length<=(s.opens σ.bx).length:=by simp[BK.opens]
 have hold:∀b,b<σ.bx.length->(s.opens σ.bx)[b]? =σ.bx[b]?:=fun b hb=>by grind[BK.opens,List.getElem?_append_left]
 have uO:∀b,b<σ.bx.length->E'.I0 b=E.I0 b:=fun b hb=>by grind
 have keep:V0 E w σ.bx E' w (s.opens σ.bx):=
  ⟨hlen,fun _ _=>rfl,fun _ h=>h,fun _ h=>h,h.bx.st,fun _ _=>rfl,fun b d r rows hb e=>⟨d,rows,by simp_all,fun p hp q ys hg=>⟨hp,⟨ys,hg,rfl⟩,fun hh he=>by simp_all⟩⟩⟩
 obtain⟨Fs,⟨f1,f2⟩,f3⟩:=h.bx;refine⟨E',⟨h.Pp,h.tm.imp fun _ _ hx=>RE keep hx,?_⟩,?_,fun i d r hi=>by grind,fun x v hx=>RE keep hx⟩
 ·refine⟨Fs++List.replicate s.Hg.length [],⟨by simp[BK.opens,f1],fun n B F hB hF=> ?_⟩,?_⟩
  ·by_cases hn:n<σ.bx.length
   ·rw[hold n hn]at hB
    rw[AOU (by omega)]at hF;have:=f2 n B F hB hF;cases B with
    |mem cs=>
     obtain⟨rfl,arr,ty,fr,a1,a2,a3⟩:=this;exact⟨rfl,arr,ty,fr,a1,a2,a3.imp fun _ _ hv=>G4 keep hv⟩
    |sl d r rows=>exact⟨this.1,by rw[uO n hn];exact this.2⟩
    |dead=>exact this
   ·rw[AOt (by omega)]at hF
    have hF':F=[]:=ATG (AOX hF);subst hF';simp only[BK.opens]at hB;rw[AOt (by omega),APl,ALs]at hB;obtain⟨p,_,rfl⟩:=hB;have hh:E'.I0 n= .slice none 0 0:=by grind
    cases p with
    |mem q=>rfl
    |gone=>rfl
    |sl d r=>exact⟨by omega,by rw[hh];exact yE⟩
  ·have:(Fs++List.replicate s.Hg.length []).flatten=Fs.flatten:=by simp
   rw[this];exact⟨f3.nodup,f3.free,f3.lt,f3.st,f3.ie,f3.gok.mono (fun _ h=>h) (fun _ _=>rfl)⟩
 ·refine⟨⟨fun _ h=>h,fun _ h=>h,fun _ h=> .inl h,fun _ h=> .inl h,fun _ _=>rfl,rfl,rfl,rfl,AOd _⟩,hlen,fun b hb=>⟨rfl,uO b hb⟩,fun b hb=> ?_,fun n B B' _ hB XC hd=> ?_⟩
  ·grind
  ·rw[hold n (AL1.1 hB).1,hB]at XC
   cases XC;exact⟨ZF.refl hd,fun _ _=>rfl⟩
theorem UC.after{t:ABu}{E E' E'':Env}{bx TW AWi:List Bx}{w w':World}(h:UC [] E bx w E' TW w)(hb:∀b,b<bx.length->TW[b]? =bx[b]?)(k:UC t E' TW w E'' AWi w'):UC t E bx w E'' AWi w':=
 ⟨h.base.trans k.base,APf h.len k.len,fun b JN=>⟨(k.ids b (AQM JN h.len)).1.trans (h.ids b JN).1,(k.ids b (AQM JN h.len)).2.trans (h.ids b JN).2⟩,fun b hd=>k.dead b (h.dead b hd),fun n B B' hn hB XC hd=>by
  have JN:=(AL1.1 hB).1;obtain⟨k1,k2⟩:=k.frame n B B' hn (by simp_all) XC hd;refine⟨k1,fun c hc=>k2 c ?_⟩;cases B with
  |mem cs=>simp only[BRB]at hc|-;rw[(h.ids n JN).1];omega
  |sl d r rows=>simp only[BRB]at hc|-;rw[(h.ids n JN).2];omega
  |dead=>exact hc⟩
def AO9(c:Rt)(N:Nat)(xs:List XV)(σ:St)(k:K Y):Option Y:=
 match c.ins.fit N c.ins.m0 xs σ.bx with
 |some (v,m)=>(c.g v).bind fun u=>
  let Kb:=eT m σ.bx.length
  let σ1:=σ.fV m
  k (lV c.outs.EK u.1 Kb) { σ1 with bx:=ft Kb 0 c.outs.Hg u.2 (DD σ1.bx m) }
 |none=>none
def AFQ(c:Rt)(N:Nat)(xs:List XV)(σ:St):ABu:=
 match c.ins.fit N c.ins.m0 xs σ.bx with
 |some (_,m)=>m.filterMap id
 |none=>[]
theorem AFv{f:Nat}{c:Rt}(hc:Nj P f c)(h:Rel E σ a w){N0:Nat}(AEe:∀(i:Nat) d r,c.ins.Hg[i]? =some (.sl d r)->E.I0 (N0+i)= .slice none 0 0){xs:List XV}{vs:List Value}(hxs:Cr (XR E w σ.bx) xs vs)(hlen:xs.length=c.ins.EK.length)(e:AO9 c N0 xs σ k=some y):
  Calls P f vs.toArray w fun e w' => ∃x E' xv σ',e= .returned x/\Rel E' σ' a w'/\XR E' w' σ'.bx xv x/\UC (AFQ c N0 xs σ) E σ.bx w E' σ'.bx w'/\σ'.tm.length=σ.tm.length/\k xv σ' =some y:=by
 obtain⟨Du,_,AAF⟩:=hc;simp only[Rt.ok,AL8]at Du;obtain⟨⟨hk,hslot⟩,hbo⟩:=Du;obtain⟨hklen,hk⟩:=bz hk;unfold AO9 at e;split at e
 case h_2=>cases e
 rename_i v m kI;simp only[AMp]at e;obtain⟨u,hg,e⟩:=e;obtain⟨_,E1,hf⟩:=sO h.bx hxs AEe (by simp[BK.m0]) (AKc _) kI;have NN:vs.toArray.size=c.ins.EK.length:=by grind[Cr.len]
 refine(AAF E1 w v vs.toArray u NN hf.boxes (by simpa using hf.EK) hg).mono fun e' w' hR=> ?_
 obtain⟨x,E',rfl,base,⟨Fs,hFs1,hFs2⟩,EK,ALZ⟩:=hR;simp only[ANV]at hFs2;obtain⟨Fk,k1,k2,k3,k4⟩:=hf.rest;have st:=h.bx.st;have ie:=h.bx.ie;have hM:m.length=c.ins.Hg.length:=hf.len;have all:∀i,i<m.length-> ∃b B,m[i]? =some (some b)/\σ.bx[b]? =some B/\B≠ .dead/\ ∀d r,c.ins.Hg[i]? =some (.sl d r)-> ∃d' rows,B= .sl d' r rows:=by
  intro i hi;have hp:c.ins.Hg[i]? =some (c.ins.Hg[i]'(by omega)):=ALk _;grind[ABU,Option.some.inj]
 let N:=σ.bx.length
 let M:=m.length
 have AMD:∀i b,m[i]? =some (some b)->eT m N i=b:=fun i b h=>by simp[eT,h]
 have AVj:∀i,M<=i->eT m N i=N+(i-M):=fun i hi=>by
  grind[List.getElem?_eq_none,eT]
 have ro:ADv (eT m N) M N:=⟨fun i hi=>by
   grind,AVj,fun i j hi hj e=>by
   obtain⟨b,B,h1,h2,_⟩:=all i hi;obtain⟨b',B',h1',h2',_⟩:=all j hj;rw[AMD i b h1,AMD j b' h1']at e;subst e;exact hf.inj i j b h1 h1'⟩
 let E2:Env:={
   Iz:=fun n=>if n<N then E.Iz n else E'.Iz (M+(n-N))
   I0:=fun n=>if n<N then E.I0 n else E'.I0 (M+(n-N))
   T:=fun c=>E.T c\/E'.S c
   S:=E'.S }
 have hS:∀c,E.S c->E'.S c:=fun d hd=>base.S d (hf.S d hd)
 have hSk:∀d∈Fk.flatten,¬E'.S d:=fun d hd hs=>by
  obtain⟨_,n2,_,n4⟩:=k3 d hd;exact(base.Sof d hs).elim n2 (fun h=>h n4)
 have AF0:∀d,E.T d->w'.heap[d]? =w.heap[d]?:=fun d hd=>base.heap d (hf.T d hd)
 have AUA:∀d∈Fk.flatten,w'.heap[d]? =w.heap[d]?:=fun d hd=>base.heap d (k3 d hd).2.2.2
 have AVw:j6 E w E2 w':=⟨fun d hd=> .inl hd,hS,fun d hd=>hd,fun d hd=>by
   rcases base.Sof d hd with h|h
   ·exact hf.Sof d h
   ·exact .inr fun ht=>h (hf.T d ht),AF0,base.os,base.tape,base.output,base.size⟩
 let vw':=KJ.mk id c.outs.Hg u.2
 let Bs:=KJ.mk (eT m N) c.outs.Hg u.2
 let bk:=(DD σ.bx m).map (Bx.map (HY m))
 have hbk:DD (σ.fV m).bx m=bk:=by rw[AHd,ky]
 have Ae7:bk.length=N:=by simp[bk,LX,N]
 let gh:=M1 (eT m N) 0 Bs bk
 have Afh:ft (eT m N) 0 c.outs.Hg u.2 (DD (σ.fV m).bx m)=gh:=by rw[s8,hbk]
 obtain⟨s1,s2,s3⟩:=mb ro (l:=Bs) (i:=0) (bx:=bk) (by omega);have AfV:Bs.length=c.outs.Hg.length:=W_ _;have vf:σ.bx.length<=gh.length:=by
  grind
 have rn:AAW E' E2 c.outs.Hg u.2 gh (eT m N):=by
  refine⟨fun i hi=> ?_,fun i p hp=> ?_,rfl⟩
  ·by_cases him:i<M
   ·obtain⟨b,B,h1,h2,_⟩:=all i him
    have hbl:b<N:=(AL1.1 h2).1;have g1:=hf.ids i b h1;grind
   grind
  ·obtain⟨z,z1,z2⟩:=gi (eT m N) (u:=u.2) hp
   grind
 have ALT:∀n,n<N->some n∉m->gh[n]? =bk[n]?:=fun n hn hm=>by
  grind
 have keep:V0 E w σ.bx E2 w' (DD gh m):=by
  refine⟨by rw[LX];omega,fun b hb=>by grind,fun d hd=> .inl hd,hS,st,AF0,fun b d r rows hb hq=> ?_⟩;have hbm:some b∉m:=fun hm=>by grind[aV]
  rw[T9 hbm,ALT b hb hbm]at hq;have hq1:=AIx hq;have rH:σ.bx[b]? =some (.sl d r rows):=by
   rcases Vb (F7.refl σ.bx) b _ hq1 with e|e
   all_goals grind
  refine⟨d,rows,rH,fun p hp q ys hgp=>⟨hp,⟨ys,hgp,rfl⟩,fun h' hh=> ?_⟩⟩;have hFk:Fk[b]? =some (Fk[b]'(by rw[k1.1,LX];omega)):=ALk _;obtain⟨_,ho⟩:=k1.2 b _ _ hq1 hFk;have e2:E2.I0 b=E.I0 b:=by grind
  grind[AAf,List.mem_flatten,List.mem_of_getElem?]
 have vr:∀x v,VR E w σ.bx x v->VR E2 w' gh (HY m x) v:=fun x v hx=>by
  refine AIQ keep (fun b d' r rows' hbm hq=> ?_) vf hx;obtain⟨i,hi,him⟩:=AQD hbm;have AQk:m[i]? =some (some b):=by grind
  obtain⟨b',B,h1,h2,h3,h4⟩:=all i hi;rw[AQk]at h1;cases h1;have hio:i<c.outs.Hg.length:=by omega
  have hp:c.outs.Hg[i]? =some c.outs.Hg[i]:=ALk hio;obtain⟨z,z1,z2⟩:=rn.bx i _ hp;rw[AMD i b AQk,hq]at z2;have AYZ:c.ins.Hg[i]? =some (c.ins.Hg[i]'(by omega)):=ALk _
  generalize c.outs.Hg[i]=po at z hp z1 z2
  cases po with
  |mem q=>simp[BP.mk]at z2
  |gone=>simp[BP.mk]at z2
  |sl d0 q=>
   simp only[BP.mk,ALl,Bx.sl.injEq]at z2;obtain⟨rfl,rfl,z2⟩:=z2;obtain rfl:=APR z2;obtain⟨d1,hpo⟩:=(hk i _ AYZ).2 _ _ hp;obtain⟨d2,rows,rfl⟩:=h4 d1 r (by simp_all);have hbl:b<N:=(AL1.1 h2).1;have eh:E2.I0 b=E.I0 b:=by grind
   refine⟨d2,rows,h2,?_,eh⟩;obtain⟨F0,hR0,_⟩:=h.bx.take h2;have hFi:Fs[i]? =some (Fs[i]'(by rw[hFs1.1,W_];omega)):=ALk _;obtain⟨_,ho'⟩:=hFs1.2 i _ _ z1 hFi;have hal:alive c.outs.Hg i=true:=by simp[alive,hp]
   rw[(ALZ i (by omega) hal).2,(hf.ids i b AQk).2]at ho';exact AEk (cP hR0.2) (cP ho')
 have cU:c.outs.Hg.all (BP.Mq c.outs.Hg)=true:=hbo;have rel:Rel E2 { tm:=(σ.fV m).tm,bx:=gh } a w':=by
  refine⟨h.Pp,?_,?_⟩
  ·rw[zr]
   exact Cr.M6 _ (fun x v hx=>AHl vr hx) h.tm
  ·refine lI ro (Fs:=Fs) (by omega) (fun i _ hi=> ?_) (by rw[hFs1.1,W_];omega) (fun j B F hB hF=> ?_) ?_
   ·obtain⟨b,B,h1,h2,_⟩:=all i hi
    rw[AMD i b h1];have hbl:b<(DD σ.bx m).length:=by grind
    have hd:(DD σ.bx m)[b]? =some .dead:=by
     rw[ALk hbl];exact congrArg some (aV (AOX h1) (ALk hbl))
    simp only[bk];rw[APl,hd];rfl
   ·rw[AS9]
    have hjl:=(AL1.1 hB).1;have hp:c.outs.Hg[j]? =some (c.outs.Hg[j]'(by omega)):=ALk _;obtain⟨z,z1,z2⟩:=gi (eT m N) (u:=u.2) hp;have XC:Bs[j]? =_:=z2;rw[hB]at XC;cases XC;exact ASl rn hp (ASm.1 cU _ (AM9 _)) (hFs1.2 j _ _ z1 hF)
   ·
    refine⟨Fk,⟨by simp[bk,k1.1],fun n B F hn hF=> ?_⟩,?_⟩
    ·simp only[bk]at hn
     rw[APl,ALs]at hn;obtain⟨B0,hn,rfl⟩:=hn;have hnl:n<N:=by grind
     have h3:=k1.2 n B0 F hn hF;have hFw:∀d∈F,w'.heap[d]? =w.heap[d]?:=fun d hd=>AUA d (APu.2 ⟨F,AOX hF,hd⟩)
     have eb:E2.Iz n=E.Iz n:=by grind
     have eh:E2.I0 n=E.I0 n:=by grind
     cases B0 with
     |mem cs=>
      obtain⟨rfl,arr,ty,fr,ha,hu,hv⟩:=h3;exact⟨by rw[eb],arr,ty,fr,by simp_all,hu,Cr.M6 _ vr hv⟩
     |sl d r rows=>
      refine⟨h3.1,?_⟩;rw[eh];exact Er hS (fun d hd=>AF0 d (st d hd)) hFw h3.2
     |dead=>exact h3
    ·refine⟨ANh.2 ⟨k2,hFs2.nodup,fun x hx z hz he=> ?_⟩,fun d hd ht=> ?_,fun d hd=> ?_,fun d hd=> .inr hd,fun d hd=> ?_,h.bx.gok.mono (fun _ h=> .inl h) AF0⟩
     ·subst he
      exact hFs2.free x hz (base.T x (k3 x hx).2.2.2)
     ·rcases AOK.1 hd with hd|hd
      ·grind
      ·rcases ht with ht|ht
       ·exact hFs2.free d hd (base.T d (hf.T d ht))
       ·exact hFs2.free d hd (hFs2.st d ht)
     ·rcases AOK.1 hd with hd|hd
      ·grind
      ·exact hFs2.lt d hd
     ·rcases hd with hd|hd
      ·grind
      ·exact hFs2.ie d (hFs2.st d hd)
 have AWJ:UC (AFQ c N0 xs σ) E σ.bx w E2 gh w':=by
  refine⟨AVw,vf,fun n hn=>⟨by grind,by grind⟩,fun n hn=> ?_,fun n B B' hnt hB XC hnd=> ?_⟩
  rotate_left 1
  ·have hnl:=(AL1.1 hB).1
   have hnm:some n∉m:=fun hm=>hnt (by
    simp only[AFQ,kI,List.mem_filterMap];simp_all)
   rw[ALT n hnl hnm]at XC;simp only[bk]at XC;have hkn:(DD σ.bx m)[n]? =some B:=by grind[T9]
   rw[APl,hkn]at XC;have XC:Bx.map (HY m) B=B':=by simp_all
   have hFk:Fk[n]? =some (Fk[n]'(by rw[k1.1,LX];omega)):=ALk _;refine⟨?_,fun d hd=> ?_⟩
   ·subst XC
    cases B with
    |mem cs=>trivial
    |sl d r rows=>rfl
    |dead=>exact absurd rfl hnd
   ·rcases ll (k1.2 n B _ hkn hFk) hd with hs|hs
    all_goals grind[List.mem_flatten,List.mem_of_getElem?]
  have hnl:=(AL1.1 hn).1;have hnm:some n∉m:=fun hm=>by
   obtain⟨i,hi,him⟩:=AQD hm;grind
  rw[ALT n hnl hnm];simp only[bk];rw[APl,T9 hnm,hn];rfl
 refine⟨x,E2,lV c.outs.EK u.1 (eT m N),{ tm:=(σ.fV m).tm,bx:=gh },rfl,rel,zK rn hslot EK,AWJ,by simp[zr],?_⟩;grind
theorem AHo{f:Nat}{c:Rt}(hc:Nj P f c)(h:Rel E σ a w){xs:List XV}{vs:List Value}(hxs:Cr (XR E w σ.bx) xs vs)(e:sy c xs σ k=some y):
  Calls P f vs.toArray w fun e w' => ∃x E' xv σ',e= .returned x/\Rel E' σ' a w'/\XR E' w' σ'.bx xv x/\UC (lu c xs σ) E σ.bx w E' σ'.bx w'/\σ'.tm.length=σ.tm.length/\k xv σ' =some y:=by
 unfold sy at e;split at e
 case isFalse=>cases e
 rename_i hlen;obtain⟨E',h1,h2,h3,h4⟩:=z_ h c.ins;have hold:∀b,b<σ.bx.length->(c.ins.opens σ.bx)[b]? =σ.bx[b]?:=fun b hb=>by grind[BK.opens,List.getElem?_append_left]
 refine(AFv (N0:=σ.bx.length) hc h1 h3 (hxs.imp fun x v hx=>h4 x v hx) hlen (k:=k) (y:=y) e).mono fun e' w' hR=> ?_
 obtain⟨x,E2,xv,σ',q0,q1,q2,q3,q4,q5⟩:=hR;exact⟨x,E2,xv,σ',q0,q1,q2,h2.after hold q3,q4,q5⟩
end
end Go.Fw
end
section
namespace Go.Fw
def oA(P:Program)(Γ:Nat->Option Rt):Prop:= ∀f c,Γ f=some c->Nj P f c
theorem yU{Γ:Nat->Option Rt}{σ:St}{o:Op}(h:xI o=false):Ld (fun _=>none) σ o=Ld Γ σ o:=by
 cases o with
 |call c=>
  obtain⟨callee,args,y8⟩:=c;cases callee with
  |value f=>simp[xI]at h
  |invoke _ _=>rfl
  |builtin b=>cases b<;>rfl
 |_=>rfl
theorem AU8{Y:Type}{P:Program}{Γ:Nat->Option Rt}{o:Oper}{E:Env}{σ:St}{a:Act}{w:World}{k:K Y}{y:Y}{g:Nat}{c:Rt}(hsc:Nj P g c)(h:Rel E σ a w){f:Operand}{args:Array Operand}{y8:Array TypeId}
  (ho:o.op= .call { callee:= .value f,args:=args,argTypes:=y8 }) {ps:List Value} (fq:a.eval f= .func (.func g) #[] ps.toArray) {xs:List XV} (JO:Cr (XR E w σ.bx) xs (args.toList.map a.eval++ps)) (ht:Ld Γ σ o.op=lu c xs σ)
  (e:sy c xs σ k=some y) {next:Act->World->Prop} {Q:Exit->Act->World->Prop}
  (hn:∀v w' E' x σ',Rel E' σ' a w'->XR E' w' σ'.bx x v->UC (Ld Γ σ o.op) E σ.bx w E' σ'.bx w'->σ'.tm.length=σ.tm.length->k x σ' =some y->next (a.put o.dst v) w'):o.wp P a w next Q:=by
 have AAF:=AHo hsc h JO e;have rz:(execOp a.eval o).run P w= .ok (.enter g (args.toList.map a.eval++ps).toArray) w:=by
  have e2:(args.map a.eval)++ps.toArray=(args.toList.map a.eval++ps).toArray:=by
   simp_all
  simp only[execOp,ho,resolve,fq,Deferred.ofValue,Sem.run_bind,Sem.run_pure,Result.andThen_ok,invoke,Array.empty_append,e2,hsc.2.1]
 unfold Oper.wp;rw[rz];simp only[Oper.upon];refine AAF.mono fun e w' hR=> ?_
 grind
section
variable{Y:Type} {P:Program} {T:Ky} (hT:E_ P T) {Γ:Nat->Option Rt} (hΓ:oA P Γ) {o:Oper} {E:Env} {σ:St} {a:Act} {w:World} {k:K Y} {y:Y}
include hT hΓ
theorem AGq(h:Rel E σ a w)(e:cC T Γ o σ k=some y){next:Act->World->Prop}{Q:Exit->Act->World->Prop}
  (hn:∀v w' E' x σ',Rel E' σ' a w'->XR E' w' σ'.bx x v->UC (Ld Γ σ o.op) E σ.bx w E' σ'.bx w'->σ'.tm.length=σ.tm.length->k x σ' =some y->next (a.put o.dst v) w'):o.wp P a w next Q:=by
 by_cases hc:xI o.op=false
 ·obtain⟨v,w',E',x,σ',hr,h1,h2,h3,h4,h5⟩:=AIV hT h e hc
  rw[yU hc]at h3;unfold Oper.wp;rcases hr with hr|⟨hr,rfl⟩
  ·rw[hr]
   exact hn v w' E' x σ' h1 h2 h3 h4 h5
  ·rw[hr]
   exact hn _ w' E' x σ' h1 h2 h3 h4 h5
 ·
  unfold xI at hc;split at hc
  case h_2=>simp_all
  rename_i f args y8 ho;unfold cC at e;rw[ho]at e;dsimp only at e;split at e
  case h_3=>cases e
  ·rename_i g Lc hf
   split at e
   case h_2=>cases e
   rename_i c hg;have hv:=h.ev f;rw[hf]at hv;obtain⟨i_,fq⟩:(∀b∈Lc,b<σ.bx.length)/\a.eval f= .func (.func g) #[] (Lc.map fun b=>Value.pointer (some ⟨E.Iz b,0,none⟩)).toArray:=hv;have hsc:=hΓ g c hg;have JO:Cr (XR E w σ.bx) (args.toList.map σ.ev++Lc.map fun b=> .c (.JR b 0)) (args.toList.map a.eval++Lc.map fun b=>Value.pointer (some ⟨E.Iz b,0,none⟩)):=by
    refine Cr.append (evs h args.toList) ?_
    clear fq hf e
    induction Lc with
    |nil=>trivial
    |cons b l ih=>exact⟨⟨i_ b (by simp),rfl⟩,ih (fun c hc=>i_ c (by simp[hc]))⟩
   grind[Ld,lu,AU8]
  ·rename_i g rows hf
   split at e
   case h_2=>cases e
   rename_i c hg;have hv:=h.ev f;rw[hf]at hv;obtain⟨ps,fq,i_⟩:∃ps:List Value,a.eval f= .func (.func g) #[] ps.toArray/\Cr (RA E w) rows ps:=hv;have hsc:=hΓ g c hg;have JO:Cr (XR E w σ.bx) (args.toList.map σ.ev++rows.map fun q=> .c (.RR false q.1 q.2 0)) (args.toList.map a.eval++ps):=by
    refine Cr.append (evs h args.toList) ?_
    clear fq hf e
    induction rows generalizing ps with
    |nil=>
     cases ps with
     |nil=>trivial
     |cons _ _=>exact i_.elim
    |cons q l ih=>
     cases ps with
     |nil=>exact i_.elim
     |cons p ps=>
      obtain⟨⟨bb,o,cs,h1,h2,h3,h4,h5⟩,i_⟩:=i_;exact⟨⟨bb,o,cs,h1,h2,h3,h4,h5⟩,ih ps i_⟩
   grind[Ld,lu,AU8]
end
theorem Rel.tmp{E:Env}{σ:St}{a:Act}{w:World}(h:Rel E σ a w){t:Nat}{x:XV}(e:σ.tm[t]? =some x):∃v,a.tmps[t]? =some v/\XR E w σ.bx x v:=by
 obtain⟨v,h1,h2⟩:=h.tm.get e;simp_all
def AP1:Value->Option Bool
 | .bool b=>some b
 |_=>none
theorem iE{ops:Array Oper}{tmps:Array Value}{j t:Nat}(e:(ops[j]?).bind (·.dst)=some t){v:Value}(hv:tmps[t]? =some v):yielded ops tmps j=AP1 v:=by
 simp only[yielded,e,AMA,hv];cases v<;>rfl
theorem xr{E:Env}{w:World}{vw:List Bx}:XR E w vw (.NM []) undef:=⟨#[],rfl,trivial⟩
structure Ok (E0:Env) (w0:World) (N nb:Nat) (E:Env) (σ:St) (a:Act) (w:World):Prop where
 rel:Rel E σ a w
 base:j6 E0 w0 E w
 tm:σ.tm.length=N
 yR:nb<=σ.bx.length
 ids:∀i,i<nb->σ.bx[i]?≠some .dead->E.Iz i=E0.Iz i/\E.I0 i=E0.I0 i
theorem Ok.next{E0 E E':Env}{w0 w w':World}{N nb:Nat}{σ σ':St}{a a':Act}{t:ABu}(h:Ok E0 w0 N nb E σ a w)(hr:Rel E' σ' a' w')(hw:UC t E σ.bx w E' σ'.bx w')(hl:σ'.tm.length=σ.tm.length):Ok E0 w0 N nb E' σ' a' w':=
 ⟨hr,h.base.trans hw.base,hl.trans h.tm,APf h.yR hw.len,fun i hi hd=>by
  have h1:=hw.ids i (AQM hi h.yR);have h2:=h.ids i hi (fun hh=>hd (hw.dead i hh));simp_all⟩
theorem Ok.put{E0 E:Env}{w0 w:World}{N nb:Nat}{σ:St}{a:Act}(h:Ok E0 w0 N nb E σ a w)(dst:Option Tmp){x:XV}{v:Value}(hx:XR E w σ.bx x v):Ok E0 w0 N nb E (σ.put dst x) (a.put dst v) w:=by
 have e1:(σ.put dst x).bx=σ.bx:=by cases dst<;>rfl
 have e2:(σ.put dst x).tm.length=σ.tm.length:=by cases dst<;>simp[St.put]
 refine⟨h.rel.put dst hx,h.base,e2.trans h.tm,by rw[e1];exact h.yR,fun i hi hd=>h.ids i hi (by simp_all)⟩
theorem Ok.same{E0 E:Env}{w0 w:World}{N nb:Nat}{σ σ1:St}{a:Act}(h:Ok E0 w0 N nb E σ a w)(hr:Rel E σ1 a w)(hb:σ1.bx=σ.bx)(hl:σ1.tm.length=σ.tm.length):Ok E0 w0 N nb E σ1 a w:=
 ⟨hr,h.base,hl.trans h.tm,by rw[hb];exact h.yR,fun i hi hd=>h.ids i hi (by rwa [hb]at hd)⟩
end Go.Fw
end
section
namespace Go.Fw
section
variable{Y:Type}
abbrev k0:K (XV×St):=fun x σ=>some (x,σ)
theorem AH7{op:BinOp}{κ:IntKind}{a b:Int}(k:AV->Option Y):mV op κ a b k=(mV op κ a b some).bind k:=by
 cases op<;>simp[mV]<;>split<;>rfl
theorem ACp{op:BinOp}{κ:IntKind}{a b:Int}(k:AV->Option Y):da op κ a b k=(da op κ a b some).bind k:=by
 unfold da;grind
theorem AHi{op:BinOp}{a b:ABG}(k:AV->Option Y):oS op a b k=(oS op a b some).bind k:=by
 cases op<;>simp[oS]<;>split<;>rfl
theorem xY{T:Ky}{t:Nat}{op:BinOp}{a b:XV}(k:AV->Option Y):AC8 T t op a b k=(AC8 T t op a b some).bind k:=by
 unfold AC8;grind[ACp,AH7,AHi]
theorem ABY{op:UnOp}{a:XV}(k:AV->Option Y):unX op a k=(unX op a some).bind k:=by
 unfold unX;grind
theorem gW{g:Bool}{a b:XV}(k:AV->Option Y):AAt g a b k=(AAt g a b some).bind k:=by
 unfold AAt;grind
theorem MQ{len:Nat}{lo hi:Option XV}(k:Nat->Nat->Option Y):Qn len lo hi k=(Qn len lo hi fun l h=>some (l,h)).bind fun p=>k p.1 p.2:=by
 unfold Qn;grind
theorem AFr{T:Ky}{t:Nat}{σ:St}{x:XV}{lo hi:Option XV}(k:K Y):sJ T t σ x lo hi k=(sJ T t σ x lo hi k0).bind fun p=>k p.1 p.2:=by
 unfold sJ;split
 ·split
  ·rw[MQ,MQ (Y:=XV×St),ATX];rfl
  ·rfl
 ·split
  ·rw[MQ,MQ (Y:=XV×St),ATX];rfl
  ·rfl
 ·split
  ·split
   ·rw[MQ,MQ (Y:=XV×St),ATX];rfl
   ·rfl
  ·rfl
 ·rfl
theorem AFi{T:Ky}{t:Nat}{σ:St}{x i:XV}(k:K Y):q7 σ T t x i k=(q7 σ T t x i k0).bind fun p=>k p.1 p.2:=by
 unfold q7;grind
theorem y_{T:Ky}{t:Nat}{σ:St}{x i:XV}(k:K Y):bC T t σ x i k=(bC T t σ x i k0).bind fun p=>k p.1 p.2:=by
 unfold bC;grind
theorem AIZ{T:Ky}{s d:Nat}{σ:St}{x:XV}(k:K Y):AAV T s d σ x k=(AAV T s d σ x k0).bind fun p=>k p.1 p.2:=by
 unfold AAV;grind
theorem AH6{T:Ky}{t:Nat}{σ:St}{l c:XV}(k:K Y):zt T t σ l c k=(zt T t σ l c k0).bind fun p=>k p.1 p.2:=by
 grind[zt]
theorem vE{T:Ky}{t n:Nat}{ps:List (Nat×XV)}{σ:St}(k:K Y):T3 T t n ps σ k=(T3 T t n ps σ k0).bind fun p=>k p.1 p.2:=by
 grind[T3,Option.bind_assoc]
theorem ADx{T:Ky}{ts:Array TypeId}{σ:St}{a x:XV}(k:K Y):lg T ts σ a x k=(lg T ts σ a x k0).bind fun p=>k p.1 p.2:=by
 unfold lg;split
 all_goals grind
theorem AEw{T:Ky}{ts:Array TypeId}{σ:St}{x:XV}(k:K Y):qX T ts σ x k=(qX T ts σ x k0).bind fun p=>k p.1 p.2:=by
 unfold qX;grind
theorem AHW{c:Rt}{xs:List XV}{σ:St}(k:K Y):sy c xs σ k=(sy c xs σ k0).bind fun p=>k p.1 p.2:=by
 grind[sy,Option.bind_assoc]
theorem ACR{σ:St}{x:XV}(k:K Y):iW σ x k=(iW σ x k0).bind fun p=>k p.1 p.2:=by
 unfold iW;grind
theorem AHK{T:Ky}{Γ:Nat->Option Rt}{o:Oper}{σ:St}(k:K Y):cC T Γ o σ k=(cC T Γ o σ k0).bind fun p=>k p.1 p.2:=by
 unfold cC;split
 ·rfl
 ·exact ACR k
 ·split
  ·rename_i x _
   cases x<;>rfl
  ·rfl
 ·grind
 ·grind
 ·grind
 ·exact vE k
 ·grind
 ·grind
 ·grind
 ·rw[xY,xY (Y:=XV×St),ATX];rfl
 ·rw[ABY,ABY (Y:=XV×St),ATX];rfl
 ·exact AIZ k
 ·grind
 ·exact AH6 k
 ·exact AFr k
 ·grind
 ·grind
 ·exact AFi k
 ·exact y_ k
 ·grind
 ·grind[AHW]
 ·grind
 ·grind[ADx]
 ·grind[AEw]
 ·split
  ·rw[gW,gW (Y:=XV×St),ATX];rfl
  ·rfl
 ·split
  ·rw[gW,gW (Y:=XV×St),ATX];rfl
  ·rfl
 ·rfl
theorem qf{I:Type}[Nonempty I]{T:Ky}{Γ:Nat->Option Rt}{o:Oper}{σ:St}{k:I->K Y}{y:Y}(h:∀i,cC T Γ o σ (k i)=some y):∃x σ',cC T Γ o σ k0=some (x,σ')/\ ∀i,k i x σ' =some y:=by
 obtain⟨i0⟩:= ‹Nonempty I›;have h0:=h i0;grind[AHK,Option.bind_eq_some_iff]
end
end Go.Fw
end
section
namespace Go.Fw
def WF{α:Type}(P:Program)(s:Sem α):Prop:= ∀w v w1,s.run P w= .ok v w1-> ∀w',s.run P w' = .ok v w'
section
variable{α β:Type} {P:Program}
theorem WF.pure(x:α):WF P (Pure.pure x:Sem α):=fun w v w1 h w' =>by
 simp_all
theorem WF.bind{s:Sem α}{f:α->Sem β}(h:WF P s)(k:∀v,WF P (f v)):WF P (s >>= f):=fun w v w1 e w' =>by
 rw[Sem.run_bind]at e|-;cases hs:s.run P w with
 |ok u w2=>
  rw[hs]at e;simp only[Result.andThen_ok]at e;rw[h w u w2 hs w'];simp only[Result.andThen_ok];exact k u w2 v w1 e w'
 |halt x w2=>
  simp_all
theorem WF.halt(x:Halt):WF P (.halt x:Sem α):=fun w v w1 e w' =>by simp_all
theorem WF.program:WF P program:=fun w v w1 e w' =>by
 simp_all
theorem WF.typeInfo(t:TypeId):WF P (typeInfo t):=WF.bind WF.program fun p=>by
 split
 ·exact WF.pure _
 ·exact WF.halt _
theorem WF.underlying(t:TypeId):WF P (underlying t):=WF.bind WF.program fun p=>by
 split
 ·exact WF.pure _
 ·exact WF.halt _
theorem WF.sizeOf(t:TypeId):WF P (Go.sizeOf t):=WF.bind (WF.typeInfo t) fun _=>WF.pure _
theorem WF.isAgg(t:TypeId):WF P (isAgg t):=WF.bind (WF.underlying t) fun d=>by
 grind[WF.pure]
theorem WF.zeroValue(t:TypeId):WF P (zeroValue t):=WF.bind (WF.typeInfo t) fun i=>by
 split
 ·exact WF.pure _
 ·exact WF.halt _
theorem WF.asIntOf(v:Value):WF P (asIntOf v):=by
 unfold Go.asIntOf;split
 ·exact WF.pure _
 ·exact WF.halt _
 ·exact WF.halt _
theorem WF.asBool(v:Value):WF P (asBool v):=by
 unfold Go.asBool;split
 ·exact WF.pure _
 ·exact WF.halt _
theorem WF.asAgg(v:Value):WF P (asAgg v):=by
 unfold Go.asAgg;split
 ·exact WF.pure _
 ·exact WF.halt _
theorem WF.sureAddr(v:Value):WF P (Instr.sureAddr v):=by
 unfold Instr.sureAddr;split
 ·exact WF.pure _
 ·exact WF.halt _
theorem WF.ADf{s:Sem α}(h:∀w v w1,s.run P w≠ .ok v w1):WF P s:=fun w v w1 e=>absurd e (h w v w1)
theorem cN{s:Sem α}{f:α->Sem β}(h:∀x w v w1,(f x).run P w≠ .ok v w1):∀w v w1,(s >>= f).run P w≠ .ok v w1:=fun w v w1 e=>by
 rw[Sem.run_bind]at e;cases hs:s.run P w with
 |ok u w2=>simp_all
 |halt x w2=>simp_all
theorem mr(x:Halt):∀w v w1,(.halt x:Sem α).run P w≠ .ok v w1:=fun w v w1 e=>by simp_all
theorem tT(e:RuntimeError):∀w v w1,(runtimePanic e:Sem α).run P w≠ .ok v w1:=by
 unfold runtimePanic;refine cN fun p=> ?_
 dsimp only;split<;>first
  |exact mr _
  |exact cN fun _=>cN fun _=>mr _
  |exact cN fun _=>mr _
theorem WF.bounds(k:IntKind)(x y:Int)(c:BoundsCode):WF P (boundsPanic k x y c:Sem α):=WF.ADf (by
 grind[boundsPanic,cN,tT])
theorem WF.part(t:TypeId)(cs:Array Value)(o:Nat):WF P (part t cs o):=WF.bind (WF.isAgg t) fun b=>by
 split
 ·grind[WF.bind,WF.sizeOf,WF.pure]
 ·split
  ·exact WF.pure _
  ·exact WF.halt _
theorem WF.field(t:TypeId)(x:Value)(f:Nat):WF P (Instr.field t x f):=WF.bind (WF.underlying t) fun d=>by
 split
 ·split
  ·grind[WF.bind,WF.asAgg,WF.part]
  ·exact WF.halt _
 ·exact WF.halt _
theorem WF.indexAt(t:TypeId)(x i:Value):WF P (Instr.indexAt t x i):=WF.bind (WF.asIntOf i) fun q=>by
 obtain⟨k,i⟩:=q;dsimp only;refine WF.bind (WF.underlying t) fun d=> ?_
 have rest:∀q:Option Addr×Nat×TypeId,WF P (do
   let d<-Go.underlying t
   match q.1 with
   |some a=>
    if 0<=i/\i<(q.2.1:Int)then do
     let s<-Go.sizeOf q.2.2
     Pure.pure (Value.pointer (some (a.add (i.toNat*s))))
    else if(decide (q.2.1<=1)&&(match d with| .array .. =>true|_=>false))=true then unsupported (.noEntry "op/indexAddr.an index out of range at an array of length 0 or 1 (ledger 616)")
    else boundsPanic k i q.2.1 .index
   |none=>boundsPanic k i 0 .index:Sem Value):=fun q=>by
  refine WF.bind (WF.underlying t) fun d=> ?_
  split
  ·split
   ·grind[WF.bind,WF.sizeOf,WF.pure]
   ·repeat' split
    all_goals first|exact WF.halt _|exact WF.bounds _ _ _ _
  grind[WF.bounds]
 split
 ·exact WF.bind (WF.sureAddr _) fun _=>WF.bind (WF.pure _) fun q=>rest q
 ·exact WF.bind (WF.pure _) fun q=>rest q
 ·exact WF.bind (WF.halt _) fun q=>rest q
theorem WF.index(t:TypeId)(x i:Value):WF P (Instr.index t x i):=WF.bind (WF.asIntOf i) fun q=>by
 obtain⟨k,i⟩:=q;dsimp only;refine WF.bind (WF.underlying t) fun d=> ?_
 split
 ·grind[WF.bind,WF.sizeOf,WF.part,WF.bounds]
 ·grind[WF.pure,WF.bounds]
 ·exact WF.halt _
theorem WF.extract(x:Value)(i:Nat):WF P (Instr.extract x i):=by
 unfold Instr.extract;split
 ·split
  ·exact WF.pure _
  ·exact WF.halt _
 ·exact WF.halt _
theorem WF.sliceBound(x:Value)(y:Nat)(c:BoundsCode):WF P (Instr.sliceBound x y c):=WF.bind (WF.asIntOf x) fun q=>by
 grind[WF.pure,WF.bounds]
theorem WF.sliceBounds(b:Bool)(len cap:Nat)(l h:Option Value):WF P (Instr.sliceBounds b len cap l h none):=by
 cases h with
 |none=>
  cases l with
  |none=>exact WF.bind (WF.pure _) fun _=>WF.bind (WF.pure _) fun _=>WF.bind (WF.pure _) fun _=>WF.pure _
  |some l=>exact WF.bind (WF.pure _) fun _=>WF.bind (WF.pure _) fun _=>WF.bind (WF.sliceBound _ _ _) fun _=>WF.pure _
 |some h=>
  cases l with
  |none=>exact WF.bind (WF.pure _) fun _=>WF.bind (WF.sliceBound _ _ _) fun _=>WF.bind (WF.pure _) fun _=>WF.pure _
  |some l=>exact WF.bind (WF.pure _) fun _=>WF.bind (WF.sliceBound _ _ _) fun _=>WF.bind (WF.sliceBound _ _ _) fun _=>WF.pure _
theorem WF.asAddr(v:Value):WF P (asAddr v):=by
 unfold Go.asAddr;split
 ·exact WF.pure _
 ·exact WF.ADf (tT _)
 ·exact WF.halt _
theorem WF.slice(t:TypeId)(x:Value)(l h:Option Value):WF P (Instr.slice t x l h none):=WF.bind (WF.underlying t) fun d=>by
 split
 ·grind[WF.bind,WF.sliceBounds,WF.pure]
 ·grind[WF.bind,WF.sliceBounds,WF.sizeOf,WF.pure]
 ·refine WF.bind (WF.asAddr _) fun _=>WF.bind (WF.underlying _) fun d=> ?_
  split
  ·grind[WF.bind,WF.sliceBounds,WF.sizeOf,WF.pure]
  ·exact WF.halt _
 ·exact WF.halt _
theorem WF.sliceAt(t:TypeId)(x:Value)(l h:Option Value):WF P (Instr.sliceAt t x l h none):=WF.bind (WF.underlying t) fun d=>by
 grind[WF.bind,WF.sureAddr,WF.sliceBounds,WF.sizeOf,WF.pure,WF.slice]
theorem WF.zu{f:α->Sem β}(h:∀x,WF P (f x)):∀l:List α,WF P (l.mapM f)
 |[]=>WF.pure _
 |x::l=>by
  rw[AWp];exact WF.bind (h x) fun _=>WF.bind (WF.zu h l) fun _=>WF.pure _
theorem WF.mapM{f:α->Sem β}(h:∀x,WF P (f x))(a:Array α):WF P (a.mapM f):=by
 rw[Array.mapM_eq_mapM_toList,<-bind_pure_comp];grind[WF.bind,WF.zu,WF.pure]
theorem WF.build(t:TypeId)(ps:Array (Nat×Value)):WF P (Instr.build t ps):=WF.bind (WF.zeroValue t) fun z=>by
 refine WF.bind (WF.underlying t) fun d=> ?_
 split
 ·refine WF.bind (WF.mapM (fun f=>WF.bind (WF.sizeOf _) fun _=>WF.pure _) _) fun _=> ?_
  split
  ·exact WF.pure _
  ·exact WF.halt _
 ·refine WF.bind (WF.sizeOf _) fun _=> ?_
  split
  ·exact WF.pure _
  ·exact WF.halt _
 ·exact WF.halt _
end
end Go.Fw
end
section
namespace Go.Fw
def Kof(hint:ABu)(E:Env)(w:World)(bx:List Bx)(c:Nat):Prop:=E.T c\/ ∃n B,n∈hint/\bx[n]? =some B/\BRB E w n B c
def w5(K:Nat->Prop)(w w':World):Prop:= ∀c,K c->w'.heap[c]? =w.heap[c]?
theorem AGd{w:World}{B:Nat->Prop}:∀{p:List tH} {r:Ty} {h:Value} {rows:List r.D} {q:Ty} {ys:List q.D} {bb o len cap i:Nat},Rd w B (.sl r) [h] rows->DQ r rows p->Hp r rows p=some ⟨q,ys⟩->
  J1 w h p=some (.slice (some ⟨bb,o,none⟩) len cap)->i<ys.length->RB w (.sl r) [h] rows bb
 |[],r,h,rows,q,ys,bb,o,len,cap,i,hr,hp,hg,hh,hi=>by
  rw[DC]at hh;cases hh;simp only[Hp,ALl,AN3]at hg;obtain⟨rfl,hg⟩:=hg;obtain rfl:=APR hg;grind[RB]
 |s::p,r,h,rows,q,ys,bb,o,len,cap,i,hr,hp,hg,hh,hi=>by
  simp only[DQ]at hp;obtain⟨hsi,NN,hp⟩:=hp;simp only[Rd]at hr;obtain⟨a,cap',e1,_,hr⟩:=hr;obtain rfl:=(AST e1).1;rcases hr with hr|⟨b',o',rfl,hb,hr⟩
  ·omega
  obtain⟨cs,hl,hc,hrow⟩:=hr s.i _ (Tl hsi);simp only[Hp]at hg;split at hg
  case h_2=>cases hg
  rename_i q' x nz;rw[nz]at hp;dsimp only at hp;obtain⟨v,hv,hrv⟩:=lp hrow nz;have hcv:=hc _ _ hv;rw[<-NN]at hcv;simp only[J1,hcv]at hh;have:=AGd hrv hp hg hh hi;simp only[RB];refine⟨b',o',_,cap',rfl,by omega,.inr ⟨s.i,_,cs,Tl hsi,hl,hc,?_⟩⟩;clear hc hcv e1 hr;exact RB_cell hrow nz hv this
where
 RB_cell {w:World} {B:Nat->Prop} {c:Nat}:∀{r:Ty} {cs:List Value} {x:r.D} {j:Nat} {t:Ty} {y:t.D} {v:Value},Rd w B r cs x->Ba r j x=some ⟨t,y⟩->cs[j]? =some v->RB w t [v] y c->RB w r cs x c
 | .cons c r,cs,x,0,t,y,v,h,e,hv,k=>by
  simp only[Rd]at h;obtain⟨u,l,rfl,h1,h2⟩:=h;simp only[Ba,ALl,AN3]at e;obtain⟨rfl,e⟩:=e;obtain rfl:=APR e;grind[RB]
 | .cons c r,cs,x,j+1,t,y,v,h,e,hv,k=>by
  simp only[Rd]at h;obtain⟨u,l,rfl,h1,h2⟩:=h;simp only[Ba]at e;have:=RB_cell h2 e (by simp_all) k;grind[RB]
 | .int k,cs,x,0,t,y,v,h,e,hv,k' =>by
  simp only[Ba,ALl,AN3]at e;obtain⟨rfl,_⟩:=e;simp[RB]at k'
 | .bool,cs,x,0,t,y,v,h,e,hv,k' =>by
  simp only[Ba,ALl,AN3]at e;obtain⟨rfl,_⟩:=e;simp[RB]at k'
 | .str,cs,x,0,t,y,v,h,e,hv,k' =>by
  simp only[Ba,ALl,AN3]at e;obtain⟨rfl,_⟩:=e;simp[RB]at k'
 | .sl r,cs,x,0,t,y,v,h,e,hv,k=>by
  simp only[Ba,ALl,AN3]at e;obtain⟨rfl,e⟩:=e;obtain rfl:=APR e;have hl:=qj h;simp only[Ty.n]at hl;obtain⟨u,rfl⟩:=List.length_eq_one_iff.1 hl;simp_all
 | .unit,_,_,_,_,_,_,_,e,_,_=>by simp[Ba]at e
 | .int _,_,_,_+1,_,_,_,_,e,_,_=>by simp[Ba]at e
 | .bool,_,_,_+1,_,_,_,_,e,_,_=>by simp[Ba]at e
 | .str,_,_,_+1,_,_,_,_,e,_,_=>by simp[Ba]at e
 | .sl _,_,_,_+1,_,_,_,_,e,_,_=>by simp[Ba]at e
section
variable{P:Program} {T:Ky} (hT:E_ P T) {E:Env} {w:World}
include hT
theorem zQ{σ:St}{Fs:List ABu}(hB:PK E w σ.bx σ.bx Fs)(st:∀c,E.S c->E.T c){t:Nat}{x:AV}{z:XV}(e:tW T t σ (.c x)=some z){v:Value}(hx:VR E w σ.bx x v):
  ∃bb oo u y,v= .pointer (some ⟨bb,oo,none⟩)/\Ke σ.bx x 0=some y/\XR E w σ.bx z u/\ ∀w',w'.heap[bb]? =w.heap[bb]?->(Instr.loadAt t v).run P w' = .ok u w':=by
 unfold tW at e;split at e
 case h_2=>cases e
 rename_i x' ti hx' Yj;cases hx';split at e
 case isTrue=>cases e
 rename_i NN;have pM:=fun w=>E_.isAgg hT Yj w
 split at e
 ·rename_i ha
  simp only[ALs]at e;obtain⟨l,hl,rfl⟩:=e;obtain⟨h1,h2⟩:=iG hl;have h0:0<l.length:=by omega
  obtain⟨b,o,u,hv,_,_⟩:=MN hB st (h2 0 _ (ALk h0)) hx;obtain⟨cs,c1,c2,c3⟩:=kK hB st hx hv (l:=l) (j:=0) (fun i y hy=>by simp_all);subst hv;have pA:=(hT t ti Yj).und;cases hd:ti.desc with
  |st fs=>
   rw[hd]at pA;obtain⟨fields,hu,_⟩:=pA;refine⟨b,o,.agg cs.toArray,_,rfl,by simpa using h2 0 _ (ALk h0),⟨cs.toArray,rfl,by omega⟩,fun w' hw=>run_loadAt_mid w' b o t cs _ (by have:=c2.of_block hw;grind[Bj,World.rangeAt]) hu rfl ?_⟩;grind[E_.size]
  |_=>grind[TD.agg]
 ·rename_i ha
  simp only[AO7]at ha;simp only[ALs]at e;obtain⟨y,hy,rfl⟩:=e;obtain⟨b,o,u,hv,hc,hr⟩:=MN hB st hy hx;subst hv;refine⟨b,o,u,y,rfl,hy,hr,fun w' hw=> ?_⟩;have APa:=pM w';rw[ha]at APa;simp only[ATL]at hc;have jy:w'.cell? ⟨b,o,none⟩=some u:=by grind[World.cell?_of_block]
  simp[Instr.loadAt,Instr.sureAddr,loadVar,APa,jy]
end
theorem ADd{E E':Env}{w w':World}{vw vw':List Bx}{t:Ty}{x:t.D}{v:Value}(h:VR E w vw (.v t x) v):VR E' w' vw' (.v t x) v:=by
 obtain⟨h1,h2⟩:=h;refine⟨h1,?_⟩;cases t<;>simp_all[Ty.scalar,Rd]
theorem py{E E':Env}{w w':World}{vw vw':List Bx}{t:Ty}{x:t.D}{v u:Value}(h:VR E w vw (.v t x) v)(k:VR E' w' vw' (.v t x) u):v=u:=by
 obtain⟨h1,h2⟩:=h;obtain⟨_,k2⟩:=k;cases t<;>simp_all[Ty.scalar,Rd]
def qV(x:XV):Prop:=(∃t z,x= .c (.v t z))\/(∃l,x= .agg l/\ ∀c∈l,∃t z,c= .v t z)
theorem N9{E E':Env}{w w':World}{vw vw':List Bx}{x:XV}{v:Value}(hp:qV x)(h:XR E w vw x v):XR E' w' vw' x v:=by
 rcases hp with⟨t,z,rfl⟩|⟨l,rfl,hl⟩
 ·exact ADd (E:=E) (w:=w) (vw:=vw) (E':=E') (w':=w') (vw':=vw') h
 ·obtain⟨vs,rfl,Zu⟩:=h
  refine⟨vs,rfl,?_⟩
  generalize vs.toList=m at Zu
  induction l generalizing m with
  |nil=>cases m with
   |nil=>trivial
   |cons _ _=>exact Zu.elim
  |cons c l ih=>cases m with
   |nil=>exact Zu.elim
   |cons u m=>
    obtain⟨t,z,rfl⟩:=hl c (by simp);exact⟨ADd Zu.1,ih (fun c hc=>hl c (by simp[hc])) m Zu.2⟩
theorem AAY{d:TD}{x z:AV}{p:Bool}(e:yK d x z=some p):(∃t y,x= .v t y)/\ ∃t y,z= .v t y:=by
 unfold yK at e;grind
theorem eV{T:Ky}:∀{i:Nat} {fs:List AD3} {l m:List AV} {r:Bool},MH T i fs l m=some r->(∀c∈l,∃t z,c= .v t z)/\ ∀c∈m,∃t z,c= .v t z
 |i,[],[],[],r,e=>by simp
 |i,(o,t)::fs,x::l,z::m,r,e=>by
  simp only[MH]at e;split at e
  case isFalse=>cases e
  split at e
  case h_2=>cases e
  split at e
  case h_2=>cases e
  rename_i p hp;simp only[ALs]at e;obtain⟨r',e1,_⟩:=e;obtain⟨a1,a2⟩:=AAY hp;obtain⟨b1,b2⟩:=eV e1;simp_all
 |_,[],[],_::_,_,e=>by simp[MH]at e
 |_,[],_::_,_,_,e=>by simp[MH]at e
 |_,_::_,[],_,_,e=>by simp[MH]at e
 |_,_::_,_::_,[],_,e=>by simp[MH]at e
theorem AMc{op:BinOp}{κ:IntKind}{a b:Int}{r:AV}(e:mV op κ a b some=some r):∃t x,r= .v t x:=by
 cases op<;>simp only[mV,ALl]at e<;>first
  |exact⟨_,_,e.symm⟩
  |(grind)
  |cases e
theorem AHS{op:BinOp}{κ:IntKind}{a b:Int}{r:AV}(e:da op κ a b some=some r):∃t x,r= .v t x:=by
 unfold da at e;grind
theorem ANS{op:BinOp}{a b:ABG}{r:AV}(e:oS op a b some=some r):∃t x,r= .v t x:=by
 cases op<;>simp only[oS,ALl]at e<;>first
  |exact⟨_,_,e.symm⟩
  |(
   split at e
   all_goals grind)
  |cases e
theorem AQZ{T:Ky}{t:Nat}{op:BinOp}{a b:XV}{r:AV}(e:AC8 T t op a b some=some r):(∃t x,r= .v t x)/\qV a/\qV b:=by
 unfold AC8 at e;split at e
 ·refine⟨?_,.inl ⟨_,_,rfl⟩,.inl ⟨_,_,rfl⟩⟩
  grind[AHS,AMc]
 ·exact⟨ANS e,.inl ⟨_,_,rfl⟩,.inl ⟨_,_,rfl⟩⟩
 ·refine⟨?_,.inl ⟨_,_,rfl⟩,.inl ⟨_,_,rfl⟩⟩
  grind
 ·split at e
  ·rename_i hq
   rw[AMp]at hq;obtain⟨fs,_,hq⟩:=hq;obtain⟨q1,q2⟩:=eV hq;cases e;exact⟨⟨_,_,rfl⟩,.inr ⟨_,rfl,q1⟩,.inr ⟨_,rfl,q2⟩⟩
  ·rename_i hq
   rw[AMp]at hq;obtain⟨fs,_,hq⟩:=hq;obtain⟨q1,q2⟩:=eV hq;cases e;exact⟨⟨_,_,rfl⟩,.inr ⟨_,rfl,q1⟩,.inr ⟨_,rfl,q2⟩⟩
  simp_all
 simp_all
theorem AJK{g:Bool}{a b:XV}{r:AV}(e:AAt g a b some=some r):(∃t x,r= .v t x)/\qV a/\qV b:=by
 unfold AAt at e;split at e
 ·refine⟨?_,.inl ⟨_,_,rfl⟩,.inl ⟨_,_,rfl⟩⟩
  grind
 simp_all
theorem AUf{op:UnOp}{a:XV}{r:AV}(e:unX op a some=some r):(∃t x,r= .v t x)/\qV a:=by
 unfold unX at e;split at e
 ·cases e;exact⟨⟨_,_,rfl⟩,.inl ⟨_,_,rfl⟩⟩
 ·cases e;exact⟨⟨_,_,rfl⟩,.inl ⟨_,_,rfl⟩⟩
 simp_all
section
variable{Y:Type} {P:Program} {T:Ky} (hT:E_ P T) {Γ:Nat->Option Rt} {o:Oper} {E:Env} {σ:St} {a:Act} {w:World} {k:K Y} {y:Y}
include hT
theorem AHH(h:Rel E σ a w){t:TypeId}(ps:Array (Nat×Operand)){s b:Nat}{fs:List AD3}{rw:Option Ty}(Yj:T.get t=some ⟨s,b,.st fs,rw⟩){r:Ty}(hr:T.o7 t=some r)
  {cs:List AV} (hb:nE T fs (hI r) (ps.toList.map fun q=>(q.1,σ.ev q.2))=some cs):
  ∃Lq,(∀w',(Instr.build t (ps.map fun(i,x)=>(i,a.eval x))).run P w' = .ok (.agg Lq) w')/\oU E w σ.bx cs Lq.toList:=by
 obtain⟨i,z,h1,h2,h3,_⟩:=row_zero hT hr;obtain⟨fields,hu,hfs,NN⟩:=AMK hT Yj;obtain⟨Lq,f1,f2⟩:=gn hT (xB h ps) (arr:=z.cells) (by grind[dX]) hb;refine⟨Lq,fun w' => ?_,f2⟩;have hb:P.built t (ps.map fun(i,x)=>(i,a.eval x)).toList=some Lq:=by
  unfold Program.built;simp only[h1,hu,h2];have hm:fields.toList.mapM (fun f=>(P.info? f.type).map fun i=>(f.offset,i.size))=some (fields.toList.map fun f=>(f.offset,((P.info? f.type).map (·.size)).getD 0)):=by
   grind[yA]
  simp only[hm];rw[<-f1];congr 1;funext n;subst hfs;simp only[List.getElem?_toArray,APl];cases hn:fields.toList[n]? with
  |none=>simp
  |some f=>
   obtain⟨i',Ds,_⟩:=NN f (AOX hn);simp[Ds]
 grind[run_build]
theorem AE9{hint:ABu}(h:Rel E σ a w)(hq:oc hint σ o.op=true)(e:cC T Γ o σ k=some y):
  ∃v x,XR E w σ.bx x v/\k x σ=some y/\ ∀w',w5 (Kof hint E w σ.bx) w w'->(execOp a.eval o).run P w' = .ok (.value v) w':=by
 obtain⟨Fs,hB,hS⟩:=h.bx;have st:=hS.st;have wf:∀{s:Sem Value} {v:Value},WF P s->s.run P w= .ok v w-> ∀w',s.run P w' = .ok v w':=fun h1 h2 w' =>h1 w _ w h2 w'
 unfold cC at e;split at e
 ·rename_i x ho
  exact⟨a.eval x,_,h.ev x,e,fun w' _=>by grind[execOp,Sem.run_pure]⟩
 ·rename_i x ho
  unfold iW at e;split at e
  ·grind[oc]
  ·exact⟨a.eval x,_,h.ev x,e,fun w' _=>by grind[execOp,Sem.run_pure]⟩
 ·rename_i c xa xb ho
  split at e
  case h_2=>cases e
  rename_i p hp;have hc:=h.ev c;rw[hp]at hc;have jy:=Uh (E:=E) (w:=w) (vw:=σ.bx) hc;refine⟨if p then a.eval xa else a.eval xb,if p then σ.ev xa else σ.ev xb,by cases p<;>simp[h.ev],by grind[AJX],fun w' _=>by simp[execOp,ho,jy,asBool]⟩
 ·rename_i t ho;rw[ho]at hq;cases hq
 ·rename_i t x ho;rw[ho]at hq;cases hq
 ·rename_i t ps ho
  split at e
  case h_2=>cases e
  rename_i s b fs rw r Yj hr;split at e
  case h_2=>cases e
  rename_i cs hcs;obtain⟨Lq,h1,h2⟩:=AHH hT h ps Yj hr hcs;exact⟨.agg Lq,.agg cs,⟨Lq,rfl,h2⟩,e,fun w' _=>by grind[execOp,Sem.run_bind,Result.andThen_ok,Sem.run_pure]⟩
 ·rename_i t n ps ho;rw[ho]at hq;cases hq
 ·rename_i t x ho
  rw[ho]at hq;split at e
  case h_2=>cases e
  rename_i z hz;have hv:=h.ev x;simp only[oc]at hq
  generalize hX:σ.ev x=X at hq hv hz
  cases X with
  |agg l=>cases hq
  |NM l=>cases hq
  |c ad=>
   obtain⟨bb,oo,u,cell,hp,hc,h2,h3⟩:=zQ hT hB st hz hv;refine⟨u,z,h2,e,fun w' tV=> ?_⟩;have hbb:w'.heap[bb]? =w.heap[bb]?:=by
    refine tV bb ?_
    have dp:VR E w σ.bx ad (a.eval x):=hv;cases ad with
    |JR b j=>
     simp only[nU,ATT]at hq;simp only[Ke]at hc;split at hc
     ·rename_i cs hb
      refine .inr ⟨b,_,hq,hb,?_⟩;have:=dp.2;rw[hp]at this;simp only[Value.pointer.injEq,ALl,Addr.mk.injEq]at this;exact this.1
     simp_all
    |Kc b p i sz j=>
     simp only[nU,ATT]at hq;simp only[Ke]at hc;split at hc
     ·rename_i d q rows hb
      refine .inr ⟨b,_,hq,hb,?_⟩;simp only[VR,hb]at dp;obtain⟨_,hpp,q1,ys,b2,o2,len,cap,g1,g2,g3,g4⟩:=dp;rw[hp]at g4;simp only[Value.pointer.injEq,ALl,Addr.mk.injEq]at g4;obtain⟨rfl,_⟩:=g4;obtain⟨F,⟨_,ho2⟩,_⟩:=hB.get hb;exact AGd (cP ho2) hpp g1 g3 g2
     simp_all
    |RR s r z j=>
     obtain⟨b2,o2,cs,g1,g2,_⟩:=dp;rw[hp]at g1;simp only[Value.pointer.injEq,ALl,Addr.mk.injEq]at g1;obtain⟨rfl,_⟩:=g1
     left
     grind
    |_=>cases hq
   grind[execOp,Sem.run_bind,Result.andThen_ok,Sem.run_pure]
 ·rename_i t xa xx ho;rw[ho]at hq;cases hq
 ·rename_i x ho
  have hx:=h.ev x;split at e
  ·rename_i b j hp
   rw[hp]at hx;have hx':b<σ.bx.length/\a.eval x= .pointer (some ⟨E.Iz b,j,none⟩):=hx;grind[execOp,Sem.run_pure]
  ·rename_i b p i sz j hp
   rw[hp]at hx;have hpt:iw (a.eval x)=true:=hx.1;grind[iw,execOp,Sem.run_pure]
  ·rename_i s r z j hp
   rw[hp]at hx;obtain⟨bb,oo,cs,hv,hrest⟩:=hx;exact⟨a.eval x,.c (.RR s r z j),⟨bb,oo,cs,hv,hrest⟩,e,fun w' _=>by grind[execOp,Sem.run_pure]⟩
  ·rename_i f Lc hp
   rw[hp]at hx;have hx':(∀b∈Lc,b<σ.bx.length)/\a.eval x= .func (.func f) #[] (Lc.map fun b=>Value.pointer (some ⟨E.Iz b,0,none⟩)).toArray:=hx;grind[execOp,Sem.run_pure]
  simp_all
 ·rename_i op t x z s ho
  rw[xY,AMp]at e;obtain⟨r,e1,e⟩:=e;obtain⟨⟨t',x',rfl⟩,p1,p2⟩:=AQZ e1;obtain⟨r0,val,h1,h2,h3⟩:=nN hT e1 (h.ev x) (h.ev z) x z;cases h1;refine⟨val,.c (.v t' x'),h3,e,fun w' _=> ?_⟩;obtain⟨r1,val',g1,g2,g3⟩:=nN hT e1 (N9 (E':=E) (w':=w') (vw':=σ.bx) p1 (h.ev x)) (N9 p2 (h.ev z)) x z;cases g1;have:=py h3 g3;subst this;simp only[execOp,ho,Sem.run_bind];simp_all
 ·rename_i op t x ho
  rw[ABY,AMp]at e;obtain⟨r,e1,e⟩:=e;obtain⟨⟨t',x',rfl⟩,p1⟩:=AUf e1;obtain⟨r0,val,h1,h2,h3⟩:=rq (P:=P) e1 (h.ev x);cases h1;refine⟨val,.c (.v t' x'),h3,e,fun w' _=> ?_⟩;obtain⟨r1,val',g1,g2,g3⟩:=rq (P:=P) e1 (N9 (E':=E) (w':=w') (vw':=σ.bx) p1 (h.ev x));grind[py,execOp,Sem.run_bind,Result.andThen_ok,Sem.run_pure]
 ·rename_i s d x ho;rw[ho]at hq;cases hq
 ·rename_i f first Lc ho;rw[ho]at hq;cases hq
 ·rename_i t l c ho;rw[ho]at hq;cases hq
 ·rename_i t x lo hi ho
  obtain⟨z,val,h1,h2,h3⟩:=od hT hB st e (h.ev x) (AG1 h lo) (AG1 h hi);exact⟨val,z,h3,h1,fun w' _=>by simp only[execOp,ho,Option.map_none,Sem.run_bind,wf (WF.sliceAt _ _ _ _) h2 w',Result.andThen_ok,Sem.run_pure]⟩
 ·rename_i t x f ho
  split at e
  case h_2=>cases e
  rename_i z hz;obtain⟨u,h1,h2⟩:=oQ hT hz (h.ev x);refine⟨u,z,h2,e,fun w' _=> ?_⟩;have hw:(Instr.fieldAt t (a.eval x) f).run P w' = .ok u w':=by
   have hx:=h.ev x;unfold AAc at hz;split at hz
   case h_2=>cases hz
   rename_i s b fs _ Yj;split at hz
   case h_2=>cases hz
   rename_i o' u' hf;have key:∀ad,a.eval x= .pointer (some ad)->(Instr.fieldAt t (a.eval x) f).run P w' = .ok u w':=by
    intro ad had;rw[had]at h1|-;have r1:=YI hT (w:=w) Yj hf (a:=ad);grind[YI]
   split at hz
   ·rename_i b' j hp
    rw[hp]at hx;exact key _ hx.2
   ·rename_i b' p i sz j hp
    rw[hp]at hx;have hpt:iw (a.eval x)=true:=hx.1;unfold iw at hpt;grind
   ·rename_i s r y' j hp
    rw[hp]at hx;obtain⟨bb,oo,cs,hv,_⟩:=hx;simp_all
   simp_all
  grind[execOp,Sem.run_bind,Result.andThen_ok,Sem.run_pure]
 ·rename_i t x f ho
  split at e
  case h_2=>cases e
  rename_i z hz;obtain⟨u,h1,h2⟩:=sg hT hz (h.ev x);exact⟨u,z,h2,e,fun w' _=>by simp only[execOp,ho,Sem.run_bind,wf (WF.field _ _ _) h1 w',Result.andThen_ok,Sem.run_pure]⟩
 ·rename_i t x i ho
  obtain⟨z,val,h1,h2,h3⟩:=pL hT hB st e (h.ev x) (h.ev i);exact⟨val,z,h3,h1,fun w' _=>by simp only[execOp,ho,Sem.run_bind,wf (WF.indexAt _ _ _) h2 w',Result.andThen_ok,Sem.run_pure]⟩
 ·rename_i t x i ho
  obtain⟨z,val,h1,h2,h3⟩:=je hT e (h.ev x) (h.ev i);exact⟨val,z,h3,h1,fun w' _=>by simp only[execOp,ho,Sem.run_bind,wf (WF.index _ _ _) h2 w',Result.andThen_ok,Sem.run_pure]⟩
 ·rename_i x i ho
  split at e
  case h_2=>cases e
  rename_i z hz;obtain⟨u,h1,h2⟩:=ki (P:=P) hz (h.ev x);exact⟨u,z,h2,e,fun w' _=>by simp only[execOp,ho,Sem.run_bind,wf (WF.extract _ _) h1 w',Result.andThen_ok,Sem.run_pure]⟩
 ·rename_i f args y8 ho;rw[ho]at hq;cases hq
 ·rename_i args y8 ho
  split at e
  ·rename_i s t JO hts
   obtain⟨x,rfl,hx⟩:=bK JO;have hv:=h.ev x;rw[hx]at hv;have dp:=bH (E:=E) (w:=w) (vw:=σ.bx) hv;split at e
   case isFalse=>cases e
   rename_i hs;have hu:=bS hT hs;refine⟨.int .i64 (s.length:Int),.c (.v (.int .i64) (s.length:Int)),VR.int (E:=E) (vw:=σ.bx) _ _,e,fun w' _=> ?_⟩;have NN:(⟨s.toArray⟩:ByteArray).size=s.length:=by rfl
   simp[execOp,ho,resolve,invoke,builtin,Builtin.len_,hts,dp,Bg hu,goInt,NN]
  ·rename_i z t _ JO hts
   obtain⟨x,rfl,hx⟩:=bK JO;have hv:=h.ev x;rw[hx]at hv;split at e
   case isFalse=>cases e
   rename_i hs;split at e
   case h_2=>cases e
   rename_i n hn;obtain⟨el,hu⟩:=rr hT hs;obtain⟨ad,cap,dp⟩:=sk hB st hn hv;refine⟨.int .i64 (n:Int),.c (.v (.int .i64) (n:Int)),VR.int (E:=E) (vw:=σ.bx) _ _,e,fun w' _=> ?_⟩;simp[execOp,ho,resolve,invoke,builtin,Builtin.len_,hts,dp,Bg hu,goInt]
  simp_all
 ·rename_i args y8 ho;rw[ho]at hq;cases hq
 ·rename_i args y8 ho;rw[ho]at hq;cases hq
 ·rename_i args y8 ho
  split at e
  case h_2=>cases e
  rename_i x1 x2 JO;obtain⟨o1,o2,rfl,hx1,hx2⟩:=bQ JO;have i_:=h.ev o1;have fq:=h.ev o2;rw[hx1]at i_;rw[hx2]at fq;rw[gW,AMp]at e;obtain⟨r,e1,e⟩:=e;obtain⟨⟨t',x',rfl⟩,p1,p2⟩:=AJK e1;obtain⟨r0,val,h1,h2,h3⟩:=Wa (P:=P) (big:=true) e1 i_ fq y8 #[] o.type;cases h1;refine⟨val,.c (.v t' x'),h3,e,fun w' _=> ?_⟩;obtain⟨r1,val',g1,g2,g3⟩:=Wa (P:=P) (big:=true) e1 (N9 (E':=E) (w':=w') (vw':=σ.bx) p1 i_) (N9 p2 fq) y8 #[] o.type;cases g1;have:=py h3 g3;subst this;simp only[AQm]at g2;simp[execOp,ho,resolve,invoke,builtin,g2]
 ·rename_i args y8 ho
  split at e
  case h_2=>cases e
  rename_i x1 x2 JO;obtain⟨o1,o2,rfl,hx1,hx2⟩:=bQ JO;have i_:=h.ev o1;have fq:=h.ev o2;rw[hx1]at i_;rw[hx2]at fq;rw[gW,AMp]at e;obtain⟨r,e1,e⟩:=e;obtain⟨⟨t',x',rfl⟩,p1,p2⟩:=AJK e1;obtain⟨r0,val,h1,h2,h3⟩:=Wa (P:=P) (big:=false) e1 i_ fq y8 #[] o.type;cases h1;refine⟨val,.c (.v t' x'),h3,e,fun w' _=> ?_⟩;obtain⟨r1,val',g1,g2,g3⟩:=Wa (P:=P) (big:=false) e1 (N9 (E':=E) (w':=w') (vw':=σ.bx) p1 i_) (N9 p2 fq) y8 #[] o.type;cases g1;have:=py h3 g3;subst this;simp only[AMx,API]at g2;simp[execOp,ho,resolve,invoke,builtin,g2]
 simp_all
end
end Go.Fw
end
section
namespace Go.Fw
section
variable{P:Program} {md:Region.Mode} {ops:Array Oper} {Q:Exit->Act->World->Prop}
theorem w5.refl(K:Nat->Prop)(w:World):w5 K w w:=fun _ _=>rfl
def ACK(P:Program)(md:Region.Mode)(ops:Array Oper)(Q:Exit->Act->World->Prop):Nat->Array Bool->(Nat->Prop)->Act->World->Prop
 |0,listed,_,a,w=>Region.ready md ops listed=[]/\Q .normal a w
 |fuel+1,listed,K,a,w=>(Region.ready md ops listed=[]->Q .normal a w)/\
  ∀i∈Region.ready md ops listed,wpOp P ops Q i (fun a' w' => ∃K':Nat->Prop,(∀c,K c->K' c)/\w5 K w w'/\ACK P md ops Q fuel (listed.setIfInBounds i true) K' a' w') a w
theorem zY:∀(fuel:Nat) (listed:Array Bool) (K:Nat->Prop) (a:Act) (w:World),ACK P md ops Q fuel listed K a w->wpAny P md ops Q fuel listed a w
 |0,_,_,_,_,h=>h
 |fuel+1,_,_,_,_,h=>⟨h.1,fun i hi=>wpOp_mono (fun a' w' ⟨K',_,_,h'⟩=>zY fuel _ K' a' w' h') (h.2 i hi)⟩
theorem YieldsIf.mono{S S':World->Prop}{o:Oper}{v:Value}{a:Act}(h:YieldsIf P ops S o v a)(hs:∀w,S' w->S w):YieldsIf P ops S' o v a:=
 h.imp (fun⟨h1,h2⟩=>⟨h1,fun w hw=>h2 w (hs w hw)⟩) id
theorem tL{i:Nat}{oi:Oper}{v:Value}(hi:ops[i]? =some oi)(AKD:∀(j:Nat) (o:Oper) cs b,ops[j]? =some o->o.op≠ .select cs b)(hQ:∀c a w,¬Q (.panic c) a w):
  ∀(fuel:Nat) (listed:Array Bool) (K:Nat->Prop) (a:Act) (w:World),
   (∀j oj,ops[j]? =some oj->j≠i->listed.getD j true=false->(∀e∈oj.after,Region.binds md e=true->e.on≠i)->oi.apart ops oj=true)->
   i∈Region.ready md ops listed->YieldsIf P ops (w5 K w) oi v a->ACK P md ops Q fuel (listed.setIfInBounds i true) K (a.put oi.dst v) w->ACK P md ops Q (fuel+1) listed K a w:=by
 intro fuel
 induction fuel with
 |zero=>
  intro listed K a w _ hr hy H;refine⟨fun h=>(by simp_all),fun j hj=> ?_⟩;by_cases hji:j=i
  ·subst hji;exact hy.wpOp hi (w5.refl K w) ⟨K,fun _ h=>h,w5.refl K w,H⟩
  ·have:=ready_mono hj hji
   rw[H.1]at this;cases this
 |succ fuel ih=>
  intro listed K a w cD hr hy H;refine⟨fun h=>(by simp_all),fun j hj=> ?_⟩;by_cases hji:j=i
  ·subst hji;exact hy.wpOp hi (w5.refl K w) ⟨K,fun _ h=>h,w5.refl K w,H⟩
  ·have h1:=H.2 j (ready_mono hj hji)
   obtain⟨hjun,oj,hoj,cU⟩:=mem_ready.1 hj;have AUa:∀e∈oj.after,Region.binds md e=true->e.on≠i:=fun e he hb heq=>by
    grind[mem_ready,Nat.lt_or_ge,Array.getElem?_eq_none]
   have h2:=wpOp_putIf hoj (cD j oj hoj hji hjun AUa) (fun cs b=>AKD i oi cs b hi) (fun cs b=>AKD j oj cs b hoj) (fun c a w h=>absurd h (hQ c _ w)) hy h1;have ASo:∀k ok,ops[k]? =some ok->k≠i->(listed.setIfInBounds j true).getD k true=false->
     (∀e∈ok.after,Region.binds md e=true->e.on≠i)->oi.apart ops ok=true:=fun k ok hk hki hun hno=>by
    refine cD k ok hk hki ?_ hno
    by_cases hjk:j=k
    all_goals simp_all
   refine wpOp_mono (fun a' w' h3=> ?_) h2;obtain⟨hy',K',hK,hs,ht⟩:=h3;refine⟨K',hK,hs,ih (listed.setIfInBounds j true) K' a' w' ASo (ready_mono hr (Ne.symm hji)) (YieldsIf.mono hy' fun w'' Aag c hc=>(Aag c (hK c hc)).trans (hs c hc)) ?_⟩;grind[Array.setIfInBounds_comm]
end
theorem su{Y:Type}{f:Nat->List Bool->Option Y}{y:Y}:∀{rs:ABu},(∀ω,ABQ f rs ω=some y)-> ∀i∈rs,∀ω,f i ω=some y
 |[i],h,j,hj,ω=>by
  simp at hj;subst hj;exact h ω
 |i::j::r,h,k,hk,ω=>by
  rcases AO3.1 hk with rfl|hk
  ·exact h (true::ω)
  ·exact su (rs:=j::r) (fun ω=>h (false::ω)) k hk ω
theorem AC7{σ:St}{t:Nat}{b:Bool}(e:σ.tm[t]? =some (.c (.v .bool b))):σ.put (some t) (.c (.v .bool b))=σ:=by
 simp only[St.put];obtain⟨tm,bx⟩:=σ;simp only[St.mk.injEq,AQs];obtain⟨JN,he⟩:=AL1.1 e;apply ATd;grind
theorem za{Y I:Type}[Nonempty I]{C:fX}{ops:Array Oper}{o:Oper}{kn:I->St->Option Y}{σ:St}{y:Y}{E:Env}{a:Act}{w:World}(h:Rel E σ a w)
  (e:∀ω,AGA C ops o (kn ω) σ=some y):
  (Region.wanted o (yielded ops a.tmps)=true/\ ∀ω,(cC C.T C.Γ o σ fun x σ' =>kn ω (σ'.put o.dst x))=some y)\/
  (Region.wanted o (yielded ops a.tmps)=false/\ ∀ω,kn ω (σ.put o.dst (.NM []))=some y):=by
 unfold AGA at e;cases hg:o.guard with
 |none=>
  simp only[hg]at e;grind[Region.wanted]
 |some q=>
  obtain⟨j,want⟩:=q;simp only[hg]at e;cases ht:(ops[j]?).bind (·.dst)with
  |none=>
   simp_all
  |some t=>
   simp only[ht]at e;obtain⟨i0⟩:= ‹Nonempty I›;have e0:=e i0;split at e0
   ·rename_i b hb
    simp only[hb]at e;obtain⟨v,hv,hx⟩:=h.tmp hb;have hvb:=Uh (E:=E) (w:=w) (vw:=σ.bx) hx;subst hvb;have hy:yielded ops a.tmps j=some b:=by rw[iE ht hv];rfl
    have hk:=AC7 hb;cases b with
    |true=>
     simp only[AMs,tt,hk]at e;cases want with
     |true=>grind[Region.wanted]
     |false=>grind[Region.wanted]
    |false=>
     simp only[ALm,ff,hk]at e;cases want with
     |true=>grind[Region.wanted]
     |false=>grind[Region.wanted]
   ·rename_i hb
    simp only[hb]at e;obtain⟨v,hv,vs,rfl,hx⟩:=h.tmp hb;grind[yielded,iE,Region.wanted]
   simp_all
theorem AIn{ops:Array Oper}{o:Oper}{σ:St}{E:Env}{a:Act}{w:World}(h:Rel E σ a w)(e:idle ops σ o=true):Region.wanted o (yielded ops a.tmps)=false:=by
 unfold idle at e;cases hg:o.guard with
 |none=>simp_all
 |some q=>
  obtain⟨j,want⟩:=q;simp only[hg]at e;cases ht:(ops[j]?).bind (·.dst)with
  |none=>simp_all
  |some t=>
   simp only[ht]at e;split at e
   ·rename_i b hb
    obtain⟨v,hv,hx⟩:=h.tmp hb;have hvb:=Uh (E:=E) (w:=w) (vw:=σ.bx) hx;grind[yielded,iE,Region.wanted]
   ·rename_i hb
    obtain⟨v,hv,vs,rfl,hx⟩:=h.tmp hb;grind[yielded,iE,Region.wanted]
   simp_all
theorem zX{Y I:Type}[Nonempty I]{C:fX}{ops:Array Oper}{i:Nat}{o:Oper}(ho:ops[i]? =some o){kn:I->St->Option Y}{σ:St}{y:Y}{E:Env}{a:Act}{w:World}(h:Rel E σ a w)
  (e:∀ω,AGm C ops i (kn ω) σ=some y):
  (Region.wanted o (yielded ops a.tmps)=true/\ ∀ω,(cC C.T C.Γ o σ fun x σ' =>kn ω (σ'.put o.dst x))=some y)\/
  (Region.wanted o (yielded ops a.tmps)=false/\ ∀ω,kn ω (σ.put o.dst (.NM []))=some y):=
 za h fun ω=>by
  have:=e ω;unfold AGm at this;simpa only[ho]using this
theorem AKq{hint t:ABu}{E E':Env}{bx TW:List Bx}{w w':World}(h:UC t E bx w E' TW w')(ht:∀b∈t,b∉hint)(ha:∀b∈hint,sL TW b=false):
  (∀c,Kof hint E w bx c->Kof hint E' w' TW c)/\w5 (Kof hint E w bx) w w':=by
 have key:∀n B,n∈hint->bx[n]? =some B-> ∃B',TW[n]? =some B'/\ZF B B'/\ ∀c,BRB E w n B c->w'.heap[c]? =w.heap[c]?:=by
  intro n B hn hB;have hd:=ha n hn;unfold sL at hd;split at hd
  ·cases hd
  ·rename_i B' jt XC
   obtain⟨h1,h2⟩:=h.frame n B B' (fun hm=>ht n hm hn) hB XC jt;simp_all
  simp_all
 refine⟨fun c hc=> ?_,fun c hc=> ?_⟩
 ·rcases hc with hc|⟨n,B,hn,hB,hc⟩
  ·exact .inl (h.base.T c hc)
  ·obtain⟨B',XC,hs,hh⟩:=key n B hn hB
   have hid:=h.ids n (AL1.1 hB).1;refine .inr ⟨n,B',hn,XC,?_⟩;cases B with
   |mem cs=>
    cases B' with
    |mem j7=>grind[BRB]
    |sl _ _ _=>exact hs.elim
    |dead=>exact hs.elim
   |sl d r rows=>
    cases B' with
    |mem j7=>exact hs.elim
    |dead=>exact hs.elim
    |sl d' r' rows' =>
     simp only[ZF,AN3]at hs;obtain⟨rfl,hs⟩:=hs;obtain rfl:=APR hs;grind[BRB,vP]
   |dead=>exact hc.elim
 ·rcases hc with hc|⟨n,B,hn,hB,hc⟩
  ·exact h.base.heap c hc
  grind
theorem fT{Y:Type}{C:fX}{hint:ABu}{ops:Array Oper}{kn:List Bool->St->Option Y}{fuel:Nat}{listed:Array Bool}{ω:List Bool}{σ:St}{y:Y}(e:XU C hint ops kn fuel listed ω σ=some y):∀b∈hint,sL σ.bx b=false:=by
 grind[XU,List.all_eq_true]
theorem AAb{Y:Type}{P:Program}{C:fX}(hT:E_ P C.T)(hΓ:oA P C.Γ){E0:Env}{w0:World}{N nb:Nat}{hint:ABu}{ops:Array Oper}{kn:List Bool->St->Option Y}{y:Y}{Q:Exit->Act->World->Prop}
  (AKD:Region.noSelect ops=true) (hP:∀c a w,¬Q (.panic c) a w) (hk:∀E σ a w,Ok E0 w0 N nb E σ a w->(∀ω,kn ω σ=some y)->Q .normal a w):
  ∀(fuel:Nat) {listed:Array Bool} {E:Env} {σ:St} {a:Act} {w:World},Ok E0 w0 N nb E σ a w->(∀ω,XU C hint ops kn fuel listed ω σ=some y)->ACK P .any ops Q fuel listed (Kof hint E w σ.bx) a w:=by
 intro fuel
 induction fuel with
 |zero=>
  intro listed E σ a w h e;have e1:=fun ω=>e ω
  unfold XU at e1;have hal:=fT (e []);have AQa:(hint.all fun b=> !sL σ.bx b)=true:=ASm.2 fun b hb=>by simp_all
  simp only[AQa,AQm]at e1;cases hr:Region.ready .any ops listed with
  |nil=>
   simp only[hr]at e1;exact⟨hr,hk E σ a w h e1⟩
  |cons i rs=>
   simp_all
 |succ fuel ih=>
  intro listed E σ a w h e;have e1:=fun ω=>e ω
  unfold XU at e1;have hal:=fT (e []);have AQa:(hint.all fun b=> !sL σ.bx b)=true:=ASm.2 fun b hb=>by simp_all
  simp only[AQa,AQm]at e1;cases hr:Region.ready .any ops listed with
  |nil=>
   simp only[hr]at e1;exact⟨fun _=>hk E σ a w h e1,by simp_all⟩
  |cons i0 rs=>
   simp only[hr]at e1;cases hf:(i0::rs).find? (wj hint ops listed σ)with
   |some i=>
    simp only[hf]at e1;have hi:=ATv hf;have ht:=List.find?_some hf
    unfold wj at ht;cases ho:ops[i]? with
    |none=>simp_all
    |some o=>
     simp only[ho,AL8]at ht;have cD:=Region.free_spec ho ht.2;rw[<-hr]at hi;have hy:=zX (I:=List Bool) (kn:=fun ω σ' =>XU C hint ops kn fuel (listed.setIfInBounds i true) ω σ') ho h.rel e1;rcases hy with⟨hw,hx⟩|⟨hw,hx⟩
     ·have hq:oc hint σ o.op=true:=by
       rcases AR1 _ _▸ht.1 with hq|hi
       ·omega
       ·rw[AIn h.rel hi]at hw
        cases hw
      obtain⟨x,σ',hx0,hx1⟩:=qf hx;obtain⟨v,x',q1,q2,q3⟩:=AE9 hT h.rel hq hx0;simp only[k0,ALl,APJ]at q2;obtain⟨rfl,rfl⟩:=q2;have pc:=ih (h.put o.dst q1) hx1;have hbx:(σ.put o.dst x').bx=σ.bx:=by cases o.dst<;>rfl
      rw[hbx]at pc;exact tL ho (Region.noSelect_spec AKD) hP fuel listed _ a w cD hi (.inl ⟨hw,q3⟩) pc
     ·have pc:=ih (h.put o.dst xr) hx
      have hbx:(σ.put o.dst (.NM [])).bx=σ.bx:=by cases o.dst<;>rfl
      rw[hbx]at pc;exact tL ho (Region.noSelect_spec AKD) hP fuel listed _ a w cD hi (.inr ⟨hw,rfl⟩) pc
   |none=>
    simp only[hf]at e1;have cU:=su e1;refine⟨fun h0=>(by simp_all),fun i hi=> ?_⟩;rw[hr]at hi;have hx:=cU i hi;cases ho:ops[i]? with
    |none=>
     simp_all
    |some o=>
     simp only[ho]at hx;have htc:(Ld C.Γ σ o.op).all (fun b=> !hint.contains b)=true:=by
      have:=hx [];simp_all
     simp only[htc,AQm]at hx;have htn:∀b∈Ld C.Γ σ o.op,b∉hint:=fun b hb hh=>by
      simp_all
     unfold wpOp;simp only[ho];rcases zX (I:=List Bool) (kn:=fun ω σ' =>XU C hint ops kn fuel (listed.setIfInBounds i true) ω σ') ho h.rel hx with⟨hw,hx⟩|⟨hw,hx⟩
     ·rw[ALi hw]
      obtain⟨x,σ',hx0,hx1⟩:=qf hx;refine .inl (AGq hT hΓ h.rel hx0 fun v w' E' x' σ'' g1 g2 g3 g4 g5=> ?_);simp only[k0,ALl,APJ]at g5;obtain⟨rfl,rfl⟩:=g5;have hbx:(σ''.put o.dst x').bx=σ''.bx:=by cases o.dst<;>rfl
      have AWq:=fT (hx1 []);rw[hbx]at AWq;obtain⟨k1,k2⟩:=AKq g3 htn AWq;have pc:=ih ((h.next g1 g3 g4).put o.dst g2) hx1;grind
     ·rw[ALj (by simp[hw])]
      have pc:=ih (h.put o.dst xr) hx;have hbx:(σ.put o.dst (.NM [])).bx=σ.bx:=by cases o.dst<;>rfl
      grind[w5.refl]
end Go.Fw
end
section
namespace Go.Fw
theorem Rel.heap{E:Env}{σ:St}{a:Act}{w w':World}(h:Rel E σ a w)(hw:w'.heap=w.heap):Rel E σ a w':=by
 have keep:V0 E w σ.bx E w' σ.bx:=by
  refine⟨AOd _,fun _ _=>rfl,fun _ h=>h,fun _ h=>h,h.bx.st,fun _ _=>by rw[hw],fun b d r rows hb e=>⟨d,rows,e,fun p hp q ys hg=>⟨hp,⟨ys,hg,rfl⟩,fun hh he=> ?_⟩⟩⟩;obtain⟨Fs,⟨f1,f2⟩,_⟩:=h.bx;have hF:Fs[b]? =some (Fs[b]'(by have:=(AL1.1 e).1;omega)):=ALk _;exact AAf (f2 b _ _ e hF).2 (fun _ _=>by rw[hw]) (fun _ _=>by rw[hw]) hp hg he
 exact⟨h.Pp,h.tm.imp fun _ _ hx=>RE keep hx,h.bx.turn (fun _ _ hv=>G4 keep hv) (fun _ h=>h) (fun _ _=>rfl) (fun _ _=>rfl) (fun _ _ _=>by rw[hw]) fun F hF=>⟨hF.nodup,hF.free,fun c hc=>by rw[hw];exact hF.lt c hc,hF.st,fun c hc=>by rw[hw];exact hF.ie c hc,hF.gok.mono (fun _ h=>h) (fun _ _=>by rw[hw])⟩⟩
theorem Ok.drawn{E0 E:Env}{w0 w:World}{N nb:Nat}{σ:St}{a:Act}(h:Ok E0 w0 N nb E σ a w)(n:Nat):Ok E0 w0 N nb E σ a { w with drawn:=n }:=
 ⟨h.rel.heap rfl,⟨h.base.T,h.base.S,h.base.Tof,h.base.Sof,h.base.heap,h.base.os,h.base.tape,h.base.output,h.base.size⟩,h.tm,h.yR,h.ids⟩
theorem sC{Y I:Type}[Nonempty I]{P:Program}{C:fX}(hT:E_ P C.T)(hΓ:oA P C.Γ){E0:Env}{w0:World}{N nb:Nat}{all:Array Oper}{kn:I->St->Option Y}{y:Y}{Q:Exit->Act->World->Prop}
  (hk:∀E σ a w,Ok E0 w0 N nb E σ a w->(∀ω,kn ω σ=some y)->Q .normal a w):∀{l:List Oper} {E:Env} {σ:St} {a:Act} {w:World},Ok E0 w0 N nb E σ a w->(∀ω,AA4 C all l (kn ω) σ=some y)->wpList P all Q l a w
 |[],E,σ,a,w,h,e=>hk E σ a w h e
 |o::rest,E,σ,a,w,h,e=>by
  unfold wpList;rcases za (kn:=fun ω σ=>AA4 C all rest (kn ω) σ) h.rel e with⟨hw,hx⟩|⟨hw,hx⟩
  ·rw[ALi hw]
   obtain⟨x,σ',hx0,hx1⟩:=qf hx;refine .inl (AGq hT hΓ h.rel hx0 fun v w' E' x' σ'' g1 g2 g3 g4 g5=> ?_);simp only[k0,ALl,APJ]at g5;obtain⟨rfl,rfl⟩:=g5;exact sC hT hΓ hk ((h.next g1 g3 g4).put o.dst g2) hx1
  ·rw[ALj (by simp[hw])]
   exact sC hT hΓ hk (h.put o.dst xr) hx
def QO(P:Program)(body:Code)(Q:Exit->Act->World->Prop)(a:Act)(w:World):Prop:=
 ∀(b:Frame) (k:List Item) (cs:List Frame),∃e a' w',Q e a' w'/\Arrives P (lone (b.at a (.code body:: .inLoop body::k)) cs w) b k cs e a' w'
theorem QO.wp{P:Program}{body:Code}{Q:Exit->Act->World->Prop}{a:Act}{w:World}(h:QO P body Q a w):(Code.loop body).wp P Q a w:=fun b k cs=>by
 obtain⟨e,a',w',hq,ji⟩:=h b k cs;exact⟨e,a',w',hq,.of_steps (.one step_loop) ji⟩
theorem QO.ANM{P:Program}{body:Code}{Q:Exit->Act->World->Prop}{a:Act}{w:World}(h:body.wp P (Exit.then (QO P body Q) Q) a w):QO P body Q a w:=fun b k cs=>by
 obtain⟨e,a₁,w₁,hq,ji⟩:=h b (.inLoop body::k) cs;cases e with
 |normal=>
  obtain⟨e₂,a₂,w₂,hq₂,harr₂⟩:=hq b k cs;exact⟨e₂,a₂,w₂,hq₂,.of_steps (Steps.trans ji (.one step_inLoop)) harr₂⟩
 |exit id=>exact⟨_,a₁,w₁,hq,.pass (x:= .inLoop body) rfl (fun _ _=> .inl (by simp)) ji⟩
 |goto l=>exact⟨_,a₁,w₁,hq,.pass (x:= .inLoop body) rfl (fun _ _=> .inl (by simp)) ji⟩
 |ret=>exact⟨_,a₁,w₁,hq,.pass (x:= .inLoop body) rfl (fun _ _=> .inl (by simp)) ji⟩
 |panic ch=>exact⟨_,a₁,w₁,hq,.pass (x:= .inLoop body) rfl (fun _ _=> .inl (by simp)) ji⟩
 |outgrown=>exact⟨_,a₁,w₁,hq,.pass (x:= .inLoop body) rfl (fun _ _=> .inl (by simp)) ji⟩
abbrev sV:=Exit->Act->World->Prop
def At(P:Program):Code->sV->Nat->Code->sV->Prop
 | .seq a b,Q,ℓ,body,Q' =>At P a (Exit.then (b.wp P Q) Q) ℓ body Q'\/At P b Q ℓ body Q'
 | .cond _ a b,Q,ℓ,body,Q' =>At P a Q ℓ body Q'\/At P b Q ℓ body Q'
 | .block id c,Q,ℓ,body,Q' =>At P c (Exit.inBlock id Q) ℓ body Q'
 | .loop c,Q,ℓ,body,Q' =>(first c= ℓ /\body=c/\Q' =Q)\/At P c (Exit.then (QO P c Q) Q) ℓ body Q'
 |_,_,_,_,_=>False
def ka(Q:sV):Prop:= ∀c a w,¬Q (.panic c) a w
theorem ka.then{Q:sV}(h:ka Q)(n:Act->World->Prop):ka (Exit.then n Q):=fun c a w hq=>h c a w hq
theorem ka.inBlock{Q:sV}(h:ka Q)(id:Nat):ka (Exit.inBlock id Q):=fun c a w hq=>h c a w hq
section
variable{Y:Type} {P:Program} {C:fX} (hT:E_ P C.T) (hΓ:oA P C.Γ) (hm:P.follows .mixedOrders=true) {E0:Env} {w0:World} {N nb:Nat} {y:Y} {J:Nat->St->Option Y}
structure Good (E0:Env) (w0:World) (N nb:Nat) (y:Y) (kn:KN Y) (kx:Nat->KN Y) (kr:KN Y) (Q:sV):Prop where
 n:∀E σ a w,Ok E0 w0 N nb E σ a w->(∀ω,kn ω σ=some y)->Q .normal a w
 x:∀id E σ a w,Ok E0 w0 N nb E σ a w->(∀ω,kx id ω σ=some y)->Q (.exit id) a w
 r:∀E σ a w,Ok E0 w0 N nb E σ a w->(∀ω,kr ω σ=some y)->Q .ret a w
def JOk(P:Program)(E0:Env)(w0:World)(N nb:Nat)(y:Y)(J:Nat->St->Option Y)(cd:Code)(Q:sV):Prop:=
 ∀ ℓ body Q',At P cd Q ℓ body Q'-> ∀E σ a w,Ok E0 w0 N nb E σ a w->J ℓ σ=some y->QO P body Q' a w
include hT hΓ hm in
theorem AFJ:∀{cd:Code} {kn:KN Y} {kx:Nat->KN Y} {kr:KN Y} {Q:sV} {E:Env} {σ:St} {a:Act} {w:World},ka Q->Good E0 w0 N nb y kn kx kr Q->JOk P E0 w0 N nb y J cd Q->Ok E0 w0 N nb E σ a w->
  (∀ω,run C J cd kn kx kr ω σ=some y)->cd.wp P Q a w:=by
 intro cd
 induction cd with
 |skip=>intro kn kx kr Q E σ a w hp hg hj h e;exact wp_skip (hg.n E σ a w h e)
 |region id ops draw=>
  intro kn kx kr Q E σ a w hp hg hj h e;simp only[run]at e;cases draw with
  |false=>
   simp only[AMx,API]at e;exact wp_region_list (sC hT hΓ hg.n h e)
  |true=>
   simp only[AQm]at e;have hs:Region.noSelect ops=true:=by
    have:=e [];split at this
    ·rename_i hh;exact hh
    ·cases this
   simp only[hs,AQm]at e;exact wp_region_any hm (zY _ _ _ _ _ (AAb hT hΓ hs hp hg.n _ (h.drawn _) e))
 |seq x z ihx ihz=>
  intro kn kx kr Q E σ a w hp hg hj h e;simp only[run]at e;refine wp_seq (ihx (hp.then _) ⟨fun E σ a w h e=>ihz hp hg (fun ℓ body Q' UF=>hj ℓ body Q' (.inr UF)) h e,fun id E σ a w h e=>hg.x id E σ a w h e,hg.r⟩ (fun ℓ body Q' UF=>hj ℓ body Q' (.inl UF)) h e)
 |cond c x z ihx ihz=>
  intro kn kx kr Q E σ a w hp hg hj h e;cases c with
  |tmp t=>
   simp only[run]at e;have e0:=e [];split at e0
   ·rename_i b hb
    simp only[hb]at e;obtain⟨v,hv,hx⟩:=h.rel.tmp hb;have hvb:=Uh (E:=E) (w:=w) (vw:=σ.bx) hx;subst hvb;have hev:a.eval (.tmp t)= .bool b:=by simp[Act.eval,ATr,hv]
    have hk:=AC7 hb;cases b with
    |true=>
     simp only[AMs,tt,hk]at e;exact wp_cond_true hev (ihx hp hg (fun ℓ body Q' UF=>hj ℓ body Q' (.inl UF)) h e)
    |false=>
     simp only[ALm,ff,hk]at e;exact wp_cond_false hev (ihz hp hg (fun ℓ body Q' UF=>hj ℓ body Q' (.inr UF)) h e)
   ·cases e0
  |_=>cases e []
 |block id c ih=>
  intro kn kx kr Q E σ a w hp hg hj h e;simp only[run]at e;refine wp_block (ih (hp.inBlock id) ⟨hg.n,fun j E σ a w h e=> ?_,hg.r⟩ (fun ℓ body Q' UF=>hj ℓ body Q' UF) h e);simp only[Exit.inBlock];split
  ·rename_i hid
   simp only[hid,AQm]at e;exact hg.n E σ a w h e
  ·rename_i hid
   simp only[hid,API]at e;exact hg.x j E σ a w h e
 |loop body ih=>
  intro kn kx kr Q E σ a w hp hg hj h e;simp only[run]at e;exact QO.wp (hj (first body) body Q (.inl ⟨rfl,rfl,rfl⟩) E σ a w h (e []))
 |exit id=>intro kn kx kr Q E σ a w hp hg hj h e;exact wp_exit (hg.x id E σ a w h e)
 |ret=>intro kn kx kr Q E σ a w hp hg hj h e;exact wp_ret (hg.r E σ a w h e)
 |_=>intro kn kx kr Q E σ a w hp hg hj h e;cases e []
end
end Go.Fw
end
section
namespace Go.Fw
def labels:Code->List Nat
 | .seq a b=>labels a++labels b
 | .cond _ a b=>labels a++labels b
 | .block _ c=>labels c
 | .loop c=>first c::labels c
 |_=>[]
theorem At.label{P:Program}:∀{cd:Code} {Q:sV} {ℓ :Nat} {body:Code} {Q':sV},At P cd Q ℓ body Q'-> ℓ ∈labels cd
 | .seq a b,Q,ℓ,body,Q',h=>by
  simp only[labels,AOK];exact h.imp At.label At.label
 | .cond _ a b,Q,ℓ,body,Q',h=>by
  simp only[labels,AOK];exact h.imp At.label At.label
 | .block _ c,Q,ℓ,body,Q',h=>At.label (cd:=c) h
 | .loop c,Q,ℓ,body,Q',h=>by
  simp only[labels,AO3];exact h.imp (fun h=>h.1.symm) At.label
section
variable{Y:Type} {P:Program} {C:fX} (hT:E_ P C.T) (hΓ:oA P C.Γ) (hm:P.follows .mixedOrders=true) {E0:Env} {w0:World} {N nb:Nat} {y:Y} {J:Nat->St->Option Y}
theorem Tx{ℓ :Nat}:∀{cd:Code} {kn:KN Y} {kx:Nat->KN Y} {kr:KN Y},ℓ ∉labels cd->find C J ℓ cd kn kx kr=none
 | .seq a b,kn,kx,kr,h=>by
  simp only[labels,AOK,AWw]at h;simp only[find];rw[Tx h.1];exact Tx h.2
 | .cond _ a b,kn,kx,kr,h=>by
  simp only[labels,AOK,AWw]at h;simp only[find];rw[Tx h.1];exact Tx h.2
 | .block _ c,kn,kx,kr,h=>by simp only[find];exact Tx (cd:=c) h
 | .loop c,kn,kx,kr,h=>by
  simp only[labels,AO3,AWw]at h;simp only[find];rw[ALj (fun e=>h.1 e.symm)];exact Tx h.2
 | .skip,_,_,_,_=>rfl
 | .region _ _ _,_,_,_,_=>rfl
 | .rangeFunc _ _ _ _,_,_,_,_=>rfl
 | .exit _,_,_,_,_=>rfl
 | .scope _,_,_,_,_=>rfl
 | .label _,_,_,_,_=>rfl
 | .goto _,_,_,_,_=>rfl
 | .ret,_,_,_,_=>rfl
 | .refuse _,_,_,_,_=>rfl
include hT hΓ hm in
theorem AMG{ℓ :Nat}:∀{cd:Code} {kn:KN Y} {kx:Nat->KN Y} {kr:KN Y} {Q:sV} {body:Code} {Q':sV},(labels cd).Nodup->ka Q->Good E0 w0 N nb y kn kx kr Q->JOk P E0 w0 N nb y J cd Q->At P cd Q ℓ body Q'->
  ∃kn' kx' kr',find C J ℓ cd kn kx kr=some (fun ω σ=>run C J body (fun _ σ=>J ℓ σ) kx' kr' ω σ)/\Good E0 w0 N nb y kn' kx' kr' Q'/\ka Q'/\JOk P E0 w0 N nb y J body (Exit.then (QO P body Q') Q'):=by
 intro cd
 induction cd with
 |seq a b iha ihb=>
  intro kn kx kr Q body Q' hn hp hg hj UF;simp only[labels,ANh]at hn;obtain⟨n1,n2,n3⟩:=hn;have hja:JOk P E0 w0 N nb y J a (Exit.then (b.wp P Q) Q):=fun ℓ body Q' UF=>hj ℓ body Q' (.inl UF)
  have hjb:JOk P E0 w0 N nb y J b Q:=fun ℓ body Q' UF=>hj ℓ body Q' (.inr UF)
  simp only[find];rcases UF with UF|UF
  ·obtain⟨kn',kx',kr',h1,h2⟩:=iha n1 (hp.then _) (kn:=fun ω σ=>run C J b kn kx kr ω σ) (kx:=kx) (kr:=kr)
    ⟨fun E σ a w h e=>AFJ hT hΓ hm hp hg hjb h e,fun id E σ a w h e=>hg.x id E σ a w h e,hg.r⟩ hja UF
   exact⟨kn',kx',kr',by rw[h1],h2⟩
  ·have: ℓ ∉labels a:=fun h=>n3 ℓ h ℓ UF.label rfl
   rw[Tx this];exact ihb n2 hp hg hjb UF
 |cond c a b iha ihb=>
  intro kn kx kr Q body Q' hn hp hg hj UF;simp only[labels,ANh]at hn;obtain⟨n1,n2,n3⟩:=hn;simp only[find];rcases UF with UF|UF
  ·obtain⟨kn',kx',kr',h1,h2⟩:=iha n1 hp hg (fun ℓ body Q' UF=>hj ℓ body Q' (.inl UF)) UF
   exact⟨kn',kx',kr',by rw[h1],h2⟩
  ·have: ℓ ∉labels a:=fun h=>n3 ℓ h ℓ UF.label rfl
   rw[Tx this];exact ihb n2 hp hg (fun ℓ body Q' UF=>hj ℓ body Q' (.inr UF)) UF
 |block id c ih=>
  intro kn kx kr Q body Q' hn hp hg hj UF;simp only[find];refine ih hn (hp.inBlock id) ⟨hg.n,fun j E σ a w h e=> ?_,hg.r⟩ (fun ℓ body Q' UF=>hj ℓ body Q' UF) UF;simp only[Exit.inBlock];split
  ·rename_i hid
   simp only[hid,AQm]at e;exact hg.n E σ a w h e
  ·rename_i hid
   simp only[hid,API]at e;exact hg.x j E σ a w h e
 |loop c ih=>
  intro kn kx kr Q body Q' hn hp hg hj UF;simp only[labels,ATq]at hn;have hj':JOk P E0 w0 N nb y J c (Exit.then (QO P c Q) Q):=fun ℓ body Q' UF=>hj ℓ body Q' (.inr UF)
  simp only[find];by_cases hl:first c= ℓ
  ·rw[ALi hl]
   rcases UF with⟨_,rfl,rfl⟩|UF
   ·exact⟨kn,kx,kr,rfl,hg,hp,hj'⟩
   ·exact absurd (hl▸UF.label) hn.1
  ·rw[ALj hl]
   rcases UF with⟨h,_⟩|UF
   ·exact absurd h hl
   ·exact ih hn.2 (hp.then _) ⟨fun E σ a w h e=>hj (first c) c Q (.inl ⟨rfl,rfl,rfl⟩) E σ a w h (e []),fun id E σ a w h e=>hg.x id E σ a w h e,hg.r⟩ hj' UF
 |_=>intro kn kx kr Q body Q' hn hp hg hj UF;exact UF.elim
end
theorem pP{E:Env}{w:World}{vw:List Bx}:∀{l:List (Nat×XP)} {x:G5.V l} {vals:List Value} {tm:List XV},Np E w vw id l x vals->Cr (XR E w vw) tm vals->Cr (XR E w vw) (G5.mk id l x tm) vals
 |[],_,_,_,_,h=>h
 |(i,p)::l,x,vals,tm,hs,h=>by
  obtain⟨⟨v,hv,hx⟩,hs⟩:=hs;simp only[G5.mk];refine pP hs ?_
  have:=Cr.set (i:=i) h hx;have e:vals.set i v=vals:=by
   apply ATd;grind
  simp_all
theorem Cr.undef{E:Env}{w:World}{vw:List Bx}:∀{vals:List Value} {n:Nat},n=vals.length->Cr (XR E w vw) (List.replicate n (.c .undef)) vals
 |[],n,h=>by subst h;trivial
 |v::vals,n,h=>by
  subst h;simp only[AOJ,List.replicate_succ];exact⟨trivial,Cr.undef rfl⟩
theorem ABc.shared{E E1:Env}{w:World}{bx:List Bx}{m:Rn}{s:BK}{x:s.V}{vals:List Value}(h:ABc E w bx m s x vals E1)(hb:DG E w bx bx []):
  ∃E2,E2.Iz=E1.Iz/\E2.I0=E1.I0/\j6 E w E2 w/\DG E2 w (KJ.mk id s.Hg x.2) (KJ.mk id s.Hg x.2) []/\Np E2 w (KJ.mk id s.Hg x.2) id s.EK x.1 vals:=by
 obtain⟨Fk,k1,k2,k3,k4⟩:=h.rest
 let E2:Env:={ E1 with S:=fun c=>E1.S c\/c∈Fk.flatten }
 have st1:=h.boxes.st;have keep:V0 E1 w (KJ.mk id s.Hg x.2) E2 w (KJ.mk id s.Hg x.2):=
  ⟨AOd _,fun _ _=>rfl,fun _ h=>h,fun _ h=> .inl h,st1,fun _ _=>rfl,fun b d r rows _ e=>⟨d,rows,e,fun p hp q ys hg=>⟨hp,⟨ys,hg,rfl⟩,fun _ h=>h⟩⟩⟩
 refine⟨E2,rfl,rfl,⟨h.T,fun c hc=> .inl (h.S c hc),fun c hc=> ?_,fun c hc=> ?_,fun _ _=>rfl,rfl,rfl,rfl,AOd _⟩,?_,?_⟩
 ·rcases k4 c hc with h|h|h
  ·exact .inl h
  ·exact .inr (.inl h)
  ·exact .inr (.inr h)
 ·rcases hc with hc|hc
  ·exact h.Sof c hc
  ·exact .inr (k3 c hc).1
 ·refine h.boxes.turn (E':=E2) (w':=w) (fun _ _ hv=>G4 keep hv) (fun _ h=> .inl h) (fun _ _=>rfl) (fun _ _=>rfl) (fun _ _ _=>rfl) fun F hF=>⟨hF.nodup,hF.free,hF.lt,fun c hc=>hc.elim (hF.st c) fun h=>(k3 c h).2.2.2,hF.ie,hF.gok.mono (fun _ h=>h) (fun _ _=>rfl)⟩
 ·have:∀{l:List (Nat×XP)} {z:G5.V l},Np E1 w (KJ.mk id s.Hg x.2) id l z vals->Np E2 w (KJ.mk id s.Hg x.2) id l z vals:=by
   intro l
   induction l with
   |nil=>intro z h;trivial
   |cons q l ih=>
    obtain⟨i,p⟩:=q;intro z h;obtain⟨⟨v,hv,hx⟩,hs⟩:=h;exact⟨⟨v,hv,RE keep hx⟩,ih hs⟩
  exact this h.EK
theorem mn:∀{l:List BP} {i n:Nat},(Wj i n l).length=l.length
 |[],_,_=>rfl
 |_::l,i,n=>by simp[Wj,mn (l:=l)]
theorem nX:∀{l:List BP} {i n k b:Nat},(Wj i n l)[k]? =some (some b)->b=i+k/\b<n/\l[k]?≠some .gone
 |[],i,n,k,b,h=>by simp[Wj]at h
 |p::l,i,n,0,b,h=>by
  grind[Wj,List.getElem?_cons_zero,Option.some.injEq]
 |p::l,i,n,k+1,b,h=>by
  simp only[Wj,List.getElem?_cons_succ]at h;obtain⟨h1,h2,h3⟩:=nX h;grind
theorem nK:∀{l:List BP} {i n k:Nat} {p:BP},l[k]? =some p->p≠ .gone->i+k<n->(Wj i n l)[k]? =some (some (i+k))
 |q::l,i,n,0,p,h,hg,hn=>by
  simp at h;subst h;simp only[Wj,List.getElem?_cons_zero,ALl];simp_all
 |q::l,i,n,k+1,p,h,hg,hn=>by
  simp only[Wj,List.getElem?_cons_succ];rw[nK (l:=l) (i:=i+1) (k:=k) (by simp_all) hg (by omega)];grind
 |[],_,_,_,_,h,_,_=>by simp at h
theorem xT{l:List BP}{n:Nat}:wN (Wj 0 n l):=fun i j b h k=>by
 have:=(nX h).1;have:=(nX k).1;omega
end Go.Fw
end
section
namespace Go.Fw
structure AV3 (P:Program) (f:Nat) (fn:Func) (c:Rt):Prop where
 at_:P.funcs[f]? =some fn
 call:∀args w,(callFunc f args).run P w= .ok (.enter f args) w
 con:c.ok=true
 tmps:c.ins.EK.length<=fn.ntmps
 labels:∀code,fn.body=some code->(labels code).Nodup
section
variable{P:Program} {C:fX} (hT:E_ P C.T) {E:Env} {σ:St} {a:Act} {w:World}
include hT in
theorem AJ1(h:Rel E σ a w):
  ∀{rs:List ResultVar} {xs:List XV},rs.mapM (AKO C.T σ)=some xs-> ∃vs,(∀f:ResultVar->Sem Value,(∀u,f (.tmp u)=pure (a.tmps.getD u undef))->(∀b t,f (.cell b t)=(do loadVar t (<-asAddr (a.tmps.getD b undef))))->
   (rs.mapM f).run P w= .ok vs w)/\Cr (XR E w σ.bx) xs vs:=by
 intro rs
 induction rs with
 |nil=>
  intro xs e;have hx:xs=[]:=by simpa using e.symm
  subst hx;exact⟨[],fun f _ _=>by simp,trivial⟩
 |cons r rs ih=>
  intro xs e;rw[AWp]at e;simp only[Option.bind_eq_bind,AMp,Option.pure_def,ALl]at e;obtain⟨x,e1,ys,e2,rfl⟩:=e;obtain⟨vs,h1,h2⟩:=ih e2;have one:∃v,(∀f:ResultVar->Sem Value,(∀u,f (.tmp u)=pure (a.tmps.getD u undef))->(∀b t,f (.cell b t)=(do loadVar t (<-asAddr (a.tmps.getD b undef))))->(f r).run P w= .ok v w)/\XR E w σ.bx x v:=by
   cases r with
   |tmp t=>
    simp only[AKO]at e1;obtain⟨v,hv,hx⟩:=h.tmp e1;refine⟨v,fun f hf hc=> ?_,hx⟩;rw[hf];simp[ATr,hv]
   |cell b t=>
    simp only[AKO]at e1;split at e1
    case h_2=>cases e1
    rename_i z hz;obtain⟨v,hv,hx⟩:=h.tmp hz;obtain⟨Fs,hB,hS⟩:=h.bx;cases z with
    |agg l=>simp[tW]at e1
    |NM l=>simp[tW]at e1
    |c ad=>
     obtain⟨bb,oo,u,cell,hp,_,q2,q3⟩:=zQ hT hB hS.st e1 hx;refine⟨u,fun f hf hc=> ?_,q2⟩;have hgd:a.tmps.getD b undef=v:=by simp[ATr,hv]
     have:=q3 w rfl;rw[hc,hgd,hp];rw[hp]at this;simpa[Instr.loadAt,Instr.sureAddr,asAddr]using this
  obtain⟨v,g1,g2⟩:=one;refine⟨v::vs,fun f hf hc=> ?_,g2,h2⟩;rw[AWp];simp[g1 f hf hc,h1 f hf hc]
theorem nC{vw:List Bx}:∀{l:List XV} {q:List (AV ⊕ List AV)} {vs:List Value},ACv l=some q->Cr (XR E w vw) l vs->Cr (TR E w vw) q vs
 |[],q,[],e,_=>by
  simp only[ACv,ALl]at e;subst e;trivial
 |[],_,_::_,_,h=>h.elim
 | .c x::l,q,v::vs,e,h=>by
  simp only[ACv,ALs]at e;obtain⟨r,e1,rfl⟩:=e;exact⟨h.1,nC e1 h.2⟩
 | .agg x::l,q,v::vs,e,h=>by
  simp only[ACv,ALs]at e;obtain⟨r,e1,rfl⟩:=e;exact⟨h.1,nC e1 h.2⟩
 | .NM _::_,_,_,e,_=>by simp[ACv]at e
 | .c _::_,_,[],_,h=>h.elim
 | .agg _::_,_,[],_,h=>h.elim
include hT in
theorem zA(h:Rel E σ a w){fn:Func}{x:XV}(e:oW C.T σ fn.results.toList=some x):∃v,(results fn a.tmps).run P w= .ok v w/\XR E w σ.bx x v:=by
 unfold oW at e;have key:∀xs,fn.results.toList.mapM (AKO C.T σ)=some xs-> ∃vs:List Value,(results fn a.tmps).run P w= .ok (if h:vs.toArray.size=1 then vs.toArray[0]else .tuple vs.toArray) w/\Cr (XR E w σ.bx) xs vs:=by
  intro xs hx;obtain⟨vs,h1,h2⟩:=AJ1 (P:=P) hT h hx;refine⟨vs,?_,h2⟩;unfold results;rw[Array.mapM_eq_mapM_toList];simp only[Sem.run_bind,Sem.run_map];rw[h1 _ (fun _=>rfl) (fun _ _=>rfl)];simp only[Result.andThen_ok,Sem.run_pure]
 split at e
 ·rename_i z hz
  cases e;obtain⟨vs,h1,h2⟩:=key _ hz
  match vs,h2 with
  |[v],h2=>exact⟨v,by simpa using h1,h2.1⟩
  |v::_::_,h2=>exact h2.2.elim
  |[],h2=>exact h2.elim
 ·rename_i l hl hz
  simp only[ALs]at e;obtain⟨q,e1,rfl⟩:=e;obtain⟨vs,h1,h2⟩:=key _ hz;have jt: ¬vs.toArray.size=1:=fun hs=>by
   have:=Cr.len h2
   match l,this with
   |[z],_=>exact hl z rfl
   |[],t=>simp at t hs;omega
   |_::_::_,t=>simp at t hs;omega
  rw[dif_neg jt]at h1;exact⟨_,h1,vs.toArray,rfl,by simpa using nC e1 h2⟩
 ·cases e
end
theorem mZ{E:Env}{w:World}{vw:List Bx}{more:List Value}:∀{l:List (Nat×XP)} {x:G5.V l} {vals:List Value},Np E w vw id l x vals->Np E w vw id l x (vals++more)
 |[],_,_,_=>trivial
 |(i,p)::l,x,vals,h=>by
  obtain⟨⟨v,hv,hx⟩,hs⟩:=h;exact⟨⟨v,by grind,hx⟩,mZ hs⟩
def AG9(C:fX)(c:Rt)(fn:Func)(code:Code)(J:Nat->Nat->St->Option c.outs.V):Prop:=
 ∀ ℓ,ℓ ∈labels code-> ∃(s:BK) (F:Nat->s.V->Option c.outs.V),(∀n,J n ℓ =jump c.ins.Hg.length s (F n))/\(∀v,F 0 v=none)/\
  ∀n v y,F (n+1) v=some y-> ∀ω,JU C c fn (J n) ℓ ω (s.st fn.ntmps v)=some y
section
variable{P:Program} {C:fX} (hT:E_ P C.T) (hΓ:oA P C.Γ) (hm:P.follows .mixedOrders=true) {fn:Func} {c:Rt}
def ARa(c:Rt)(E0:Env)(w0:World)(u:c.outs.V)(e:Ending)(w':World):Prop:=
 ∃x E',e= .returned x/\j6 E0 w0 E' w'/\DG E' w' (KJ.mk id c.outs.Hg u.2) (KJ.mk id c.outs.Hg u.2) []/\
  Np E' w' (KJ.mk id c.outs.Hg u.2) id c.outs.EK u.1 [x]/\ ∀i,i<c.ins.Hg.length->alive c.outs.Hg i=true->E'.Iz i=E0.Iz i/\E'.I0 i=E0.I0 i
theorem Ok.opens{E0 E:Env}{w0 w:World}{N nb:Nat}{σ:St}{a:Act}(h:Ok E0 w0 N nb E σ a w)(s:BK):∃E',Ok E0 w0 N nb E' { σ with bx:=s.opens σ.bx } a w/\
  (∀(i:Nat) d r,s.Hg[i]? =some (.sl d r)->E'.I0 (σ.bx.length+i)= .slice none 0 0)/\(∀x v,XR E w σ.bx x v->XR E' w (s.opens σ.bx) x v):=by
 obtain⟨E',h1,h2,h3,h4⟩:=z_ h.rel s;exact⟨E',h.next h1 h2 rfl,h3,h4⟩
theorem AKx{E E':Env}{w:World}{vw:List Bx}{b:Nat}(h:Le E E')(st:∀c,E.S c->E.T c):V0 E w vw E' w (vw.set b .dead):=by
 refine⟨by simp,fun b _=>by rw[h.Iz],h.T,h.S,st,fun _ _=>rfl,fun c d r rows _ e=> ?_⟩;by_cases hc:c=b
 ·simp_all
 ·rw[AQF (fun e=>hc e.symm)]at e
  exact⟨d,rows,e,fun p hp q ys hg=>⟨hp,⟨ys,hg,rfl⟩,fun h' hh=>by rw[h.I0];omega⟩⟩
theorem AM_{E:Env}{σ:St}{a:Act}{w:World}(h:Rel E σ a w)(b:Nat):∃E',Rel E' (σ.wQ b) a w/\Le E E':=by
 unfold St.wQ;split
 case h_2=>exact⟨E,h,Le.refl E⟩
 rename_i d r rows hb;obtain⟨F,hF,hB⟩:=h.bx.take hb;have c_:DG E w σ.bx (σ.bx.set b .dead) ([]++F++[]):=by simpa using hB
 obtain⟨hle,hB3⟩:=c_.share;have hk:=AKx (vw:=σ.bx) (b:=b) (w:=w) hle h.bx.st;have hk2:V0 E w σ.bx { E with S:=fun c=>E.S c\/c∈F,T:=fun c=>E.T c\/c∈F } w ((σ.bx.set b .dead).map (Bx.wQ b r rows)):=by
  refine⟨by simp,hk.Iz,hk.T,hk.S,hk.st,hk.heap,fun c d' r' rows' hc e=> ?_⟩;rw[APl,ALs]at e;obtain⟨B,e,eB⟩:=e;cases B with
  |mem cs=>cases eB
  |dead=>cases eB
  |sl d0 r0 Vl=>
   cases eB;exact hk.box c _ _ _ hc e
 have hv:∀x v,VR E w σ.bx x v->VR { E with S:=fun c=>E.S c\/c∈F,T:=fun c=>E.T c\/c∈F } w ((σ.bx.set b .dead).map (Bx.wQ b r rows)) (x.wQ b r rows) v:=fun x v hx=>by
  unfold AV.wQ;split
  ·rename_i c
   split
   ·rename_i hc
    subst hc;obtain⟨h1,h2⟩:=hx;rw[hb]at h2;have hv:=h2.2.2;rw[DC]at hv;simp only[ALl]at hv;have:=cP hF.2;rw[hv]at this;exact Gd (fun c hc=>hc) (fun _ _=>rfl) this
   ·exact G4 hk2 hx
  ·exact G4 hk2 hx
 refine⟨_,⟨h.Pp,?_,?_⟩,hle⟩
 ·refine Cr.M6 _ (fun x v hx=> ?_) h.tm
  unfold XV.wQ;split
  ·exact hv _ _ hx
  ·exact RE hk2 hx
 ·obtain⟨Fs,⟨hl,h1⟩,h2⟩:=hB
  have h2':Sep E w (F++Fs.flatten):=h2.perm (by simpa using AVi);refine⟨Fs,⟨by simpa using hl,fun k B G XC hG=> ?_⟩,?_⟩
  ·rw[APl,ALs]at XC
   obtain⟨B0,e,rfl⟩:=XC;have h3:=h1 k B0 G e hG;cases B0 with
   |mem cs=>
    obtain⟨rfl,arr,ty,fr,a1,a2,a3⟩:=h3;exact⟨rfl,arr,ty,fr,a1,a2,Cr.M6 _ (fun x v hx=>hv x v hx) a3⟩
   |sl d0 r0 Vl=>exact⟨h3.1,Er hle.S (fun _ _=>rfl) (fun _ _=>rfl) h3.2⟩
   |dead=>exact h3
  ·rw[ANV]
   have st:=h.bx.st;refine⟨(ANh.1 h2'.nodup).2.1,fun c hc ht=> ?_,fun c hc=>h2'.lt c (by simp only[AOK];exact .inr hc),fun c hc=>hc.imp (st c) id,fun c hc=>hc.elim (h2'.ie c) fun h' =>h2'.lt c (by simp[h']),h2'.gok.mono (fun _ h=> .inl h) (fun _ _=>rfl)⟩;rcases ht with ht|ht
   ·exact h2'.free c (AOK.2 (.inr hc)) ht
   ·exact(ANh.1 h2'.nodup).2.2 c ht c hc rfl
theorem AJS{σ:St}{b i:Nat}(h:σ.bx[i]? =some .dead):(σ.wQ b).bx[i]? =some .dead:=by
 unfold St.wQ;split
 ·simp only[APl,List.getElem?_set]
  split
  ·simp_all
  ·rw[h];rfl
 omega
theorem AGQ{σ:St}{b:Nat}:(σ.wQ b).bx.length=σ.bx.length/\(σ.wQ b).tm.length=σ.tm.length:=by
 grind[St.wQ]
theorem Ok.wQ{E0 E:Env}{w0 w:World}{N nb:Nat}{σ:St}{a:Act}(h:Ok E0 w0 N nb E σ a w)(b:Nat):∃E',Ok E0 w0 N nb E' (σ.wQ b) a w:=by
 obtain⟨E',h1,h2⟩:=AM_ h.rel b;refine⟨E',⟨h1,h.base.trans (h2.base w),by rw[AGQ.2];exact h.tm,by rw[AGQ.1];exact h.yR,fun i hi hd=> ?_⟩⟩;rw[h2.Iz,h2.I0];exact h.ids i hi fun e=>hd (AJS e)
theorem Ok.H4{E0:Env}{w0 w:World}{N nb:Nat}{a:Act}:∀(l:List AP) (xs:List AV) {E:Env} {σ:St},Ok E0 w0 N nb E σ a w-> ∃E',Ok E0 w0 N nb E' (H4 l xs σ) a w:=by
 intro l xs E σ h
 induction l generalizing xs E σ with
 |nil=>grind[Fw.H4]
 |cons p l ih=>
  unfold Fw.H4;split
  ·rename_i heq
   cases heq;obtain⟨E',h'⟩:=h.wQ _;exact ih _ h'
  ·rename_i heq
   cases heq;exact ih _ h
  grind
theorem Ok.AY4{E0:Env}{w0 w:World}{N nb:Nat}{a:Act}{bs:List BP}:∀(l:List (Nat×XP)) {E:Env} {σ:St},Ok E0 w0 N nb E σ a w-> ∃E',Ok E0 w0 N nb E' (SL bs l σ) a w:=by
 intro l
 induction l with
 |nil=>intro E σ h;exact⟨E,h⟩
 |cons q l ih=>
  intro E σ h;unfold SL;split
  ·simp_all
  ·rename_i e
   cases e;split
   ·obtain⟨E',h'⟩:=h.H4 [_] [_]
    exact ih h'
   grind
  ·rename_i e
   cases e;split
   ·split
    ·obtain⟨E',h'⟩:=h.H4 _ _
     exact ih h'
    grind
   grind
  grind
theorem AAl{E:Env}{w:World}{vw:List Bx}{x:AV}{v:Value}(h:VR E w vw x v)(hx:x.zf=true):isSlice v=true:=by
 cases x with
 |ref b p=>exact h.1
 |win b p o n=>exact h.1
 |sl s r y=>
  simp only[VR,Rd]at h;obtain⟨a,cap,h,_⟩:=h;simp only[AOx,AQs]at h;rw[h];rfl
 |nil=>cases h;rfl
 |_=>cases hx
theorem AEp{E:Env}{σ:St}{a:Act}{w:World}(h:Rel E σ a w)(b j:Nat):Rel E (σ.forget b j) a w/\σ.bx.length<=(σ.forget b j).bx.length/\(∀i:Nat,σ.bx[i]? =some Bx.dead->(σ.forget b j).bx[i]? =some Bx.dead)/\(σ.forget b j).tm=σ.tm:=by
 unfold St.forget;split
 case h_2=>simp_all
 rename_i cs hb;split
 case h_2=>simp_all
 rename_i x hx;split
 case isFalse=>simp_all
 rename_i hs;have hbl:=(AL1.1 hb).1;have hk:V0 E w σ.bx E w (σ.bx.set b (.mem (cs.set j (.ref σ.bx.length [])))++[.dead]):=by
  refine⟨by simp,fun _ _=>rfl,fun _ h=>h,fun _ h=>h,h.bx.st,fun _ _=>rfl,fun c d r rows hc e=> ?_⟩;grind
 refine⟨⟨h.Pp,h.tm.imp fun _ _ hx=>RE hk hx,?_⟩,by simp,fun i hi=> ?_,rfl⟩
 ·obtain⟨Fs,⟨hl,h1⟩,h2⟩:=h.bx
  refine⟨Fs++[[]],⟨by simp[hl],fun k B G hB hG=> ?_⟩,by simp_all⟩;by_cases hk2:k<σ.bx.length
  ·rw[AOU (by simp_all)]at hB
   rw[AOU (by omega)]at hG;by_cases hkb:b=k
   ·subst hkb
    rw[ASO hk2]at hB;cases hB;obtain⟨rfl,arr,ty,fr,a1,a2,a3⟩:=h1 b _ G hb hG;refine⟨rfl,arr,ty,fr,a1,a2,?_⟩;have a4:oU E w (σ.bx.set b (.mem (cs.set j (.ref σ.bx.length [])))++[.dead]) cs arr.toList:=a3.imp fun _ _ hv=>G4 hk hv
    obtain⟨v,hv,hvr⟩:=a3.get hx;have X3:arr.toList.set j v=arr.toList:=by
     apply ATd;grind
    rw[<-X3];refine Cr.set a4 ⟨AAl hvr hs,?_⟩;simp_all
   ·rw[AQF hkb]at hB
    have h3:=h1 k B G hB hG;cases B with
    |mem j7=>
     obtain⟨rfl,arr,ty,fr,a1,a2,a3⟩:=h3;exact⟨rfl,arr,ty,fr,a1,a2,a3.imp fun _ _ hv=>G4 hk hv⟩
    |sl d0 r0 Vl=>exact h3
    |dead=>exact h3
  ·have hlen:=(AL1.1 hB).1
   simp only[AOu,ASf,AOJ,APN]at hlen;have hkk:k=σ.bx.length:=by omega
   subst hkk;rw[AOt (by simp)]at hB;rw[AOt (by omega)]at hG;simp[hl]at hB hG;subst hB hG;rfl
 grind
theorem Ok.forget{E0 E:Env}{w0 w:World}{N nb:Nat}{σ:St}{a:Act}(h:Ok E0 w0 N nb E σ a w)(b j:Nat):Ok E0 w0 N nb E (σ.forget b j) a w:=by
 obtain⟨h1,h2,h3,h4⟩:=AEp h.rel b j;exact⟨h1,h.base,by rw[h4];exact h.tm,APf h.yR h2,fun i hi hd=>h.ids i hi fun e=>hd (h3 i e)⟩
theorem Ok.cx{E0 E:Env}{w0 w:World}{N nb:Nat}{a:Act}{bs:List BP}{b:Nat}:∀(l:List AP) (j:Nat) {σ:St},Ok E0 w0 N nb E σ a w->Ok E0 w0 N nb E (cx bs b j l σ) a w
 |[],_,_,h=>h
 |p::l,j,σ,h=>by
  simp only[Fw.cx];refine Ok.cx l (j+1) ?_
  split
  ·split
   ·exact h.forget _ _
   omega
  omega
theorem Ok.AUL{E0 E:Env}{w0 w:World}{N nb:Nat}{a:Act}{bs:List BP}:∀(l:List (Nat×XP)) {σ:St},Ok E0 w0 N nb E σ a w->Ok E0 w0 N nb E (lD bs l σ) a w
 |[],_,h=>h
 |(i,p)::l,σ,h=>by
  simp only[lD];refine Ok.AUL l ?_
  split
  ·split
   ·exact h.cx _ _
   omega
  omega
theorem Ok.gk{E0:Env}{w0 w:World}{N nb:Nat}{a:Act}:∀(l:List (AP ⊕ List AP)) (xs:List (AV ⊕ List AV)) {E:Env} {σ:St},Ok E0 w0 N nb E σ a w-> ∃E',Ok E0 w0 N nb E' (gk l xs σ) a w:=by
 intro l xs E σ h
 induction l generalizing xs E σ with
 |nil=>unfold Fw.gk;exact⟨E,h⟩
 |cons p l ih=>
  unfold Fw.gk;split
  ·rename_i heq
   cases heq;obtain⟨E',h'⟩:=h.H4 _ _;exact ih _ h'
  ·rename_i heq
   cases heq;obtain⟨E',h'⟩:=h.H4 _ _;exact ih _ h'
  ·rename_i heq
   cases heq;exact ih _ h
  ·exact⟨E,h⟩
theorem Ok.qz{E0 E:Env}{w0 w:World}{N nb:Nat}{σ:St}{a:Act}(h:Ok E0 w0 N nb E σ a w)(l:List (Nat×XP))(x:XV):∃E',Ok E0 w0 N nb E' (qz l x σ) a w:=by
 unfold Fw.qz;split
 ·unfold AWN
  split
  ·exact h.H4 _ _
  ·exact h.H4 _ _
  ·exact h.gk _ _
  ·exact⟨E,h⟩
 ·exact⟨E,h⟩
include hT in
theorem AAI{E0 E:Env}{w0 w:World}{N:Nat}{σ:St}{a:Act}{u:c.outs.V}(h:Ok E0 w0 N c.ins.Hg.length E σ a w)(e:yY C.T c fn.results.toList σ=some u):
  a.defers=[]/\ ∃v,(results fn a.tmps).run P w= .ok v w/\ARa c E0 w0 u (.returned v) w:=by
 unfold yY at e;simp only[AMp,ALs]at e;obtain⟨x0,_,x,e1,⟨u',m⟩,e2,rfl⟩:=e;obtain⟨E,h⟩:=h.qz c.outs.EK x0;revert h e1 e2
 generalize Fw.qz c.outs.EK x0 σ=σ
 intro e1 e2 h;obtain⟨v,h1,h2⟩:=zA hT h.rel e1;obtain⟨E,h,AEe,h4⟩:=h.opens c.outs
 replace h2:=h4 _ _ h2
 obtain⟨hext,E1,hf⟩:=sO (tm:=[x]) (vals:=[v]) h.rel.bx ⟨h2,trivial⟩ AEe mn xT e2;obtain⟨E2,q1,q2,q3,q4,q5⟩:=hf.shared h.rel.bx;refine⟨h.rel.Pp,v,h1,v,E2,rfl,h.base.trans q3,q4,q5,fun i hi hal=> ?_⟩;obtain⟨p,hp,hg⟩:∃p,c.outs.Hg[i]? =some p/\p≠ .gone:=by
  unfold alive at hal;cases hh:c.outs.Hg[i]? with
  |none=>rw[hh]at hal;cases hal
  |some p=>
   refine⟨p,rfl,fun hp=> ?_⟩;rw[hh,hp]at hal;cases hal
 have hm1:=hext.2 i i (by have:=nK (i:=0) (n:=c.ins.Hg.length) hp hg (by omega);simpa using this);obtain⟨b,B,g1,g2,g3,_⟩:=ABU e2 i p hp hg;rw[hm1]at g1;cases g1;have hid:=hf.ids i i hm1;have AJg:=h.ids i hi (fun hd=>by rw[g2]at hd;cases hd;exact g3 rfl);rw[q1,q2];exact⟨hid.1.trans AJg.1,hid.2.trans AJg.2⟩
include hT hΓ hm in
theorem AK0{code:Code}(hb:fn.body=some code)(hl:(labels code).Nodup){J:Nat->Nat->St->Option c.outs.V}(hJ:AG9 C c fn code J)
  {E0:Env} {w0:World} {u:c.outs.V} {Q:sV} (hp:ka Q)
  (hg:Good E0 w0 fn.ntmps c.ins.Hg.length u (fun _=>yY C.T c fn.results.toList) (fun _ _ _=>none) (fun _=>yY C.T c fn.results.toList) Q):
  ∀n,JOk P E0 w0 fn.ntmps c.ins.Hg.length u (J n) code Q:=by
 intro n
 induction n with
 |zero=>
  intro ℓ body Q' UF E σ a w h e;obtain⟨s,F,j1,j2,j3⟩:=hJ ℓ UF.label;rw[j1]at e;simp only[jump]at e;split at e
  ·rw[AMp]at e
   obtain⟨q,_,e⟩:=e;rw[j2]at e;cases e
  ·cases e
 |succ n ih=>
  intro ℓ body Q' UF E σ a w h e;obtain⟨s,F,j1,j2,j3⟩:=hJ ℓ UF.label;rw[j1]at e;simp only[jump]at e;split at e
  case isFalse=>cases e
  rename_i yR;rw[AMp]at e;obtain⟨⟨v,m⟩,e1,e2⟩:=e;dsimp only at e2;obtain⟨E,h⟩:=h.AY4 (bs:=s.Hg) s.EK
  replace h:=h.AUL (bs:=s.Hg) s.EK
  revert h e1
  generalize lD s.Hg s.EK (SL s.Hg s.EK σ)=σ
  intro e1 h;obtain⟨E,h,AEe,h4⟩:=h.opens s;obtain⟨hext,E1,hf⟩:=sO h.rel.bx h.rel.tm AEe mn xT e1;obtain⟨E2,q1,q2,q3,q4,q5⟩:=hf.shared h.rel.bx;have NN:fn.ntmps=a.tmps.toList.length:=by rw[<-Cr.len h.rel.tm,h.tm]
  have Du:Ok E0 w0 fn.ntmps c.ins.Hg.length E2 (s.st fn.ntmps v) a w:=by
   refine⟨⟨h.rel.Pp,pP q5 (Cr.undef NN),q4⟩,h.base.trans q3,?_,?_,fun i hi hd=> ?_⟩
   ·have:=Cr.len (pP q5 (Cr.undef NN))
    simp only[BK.st];rw[this,<-NN]
   ·simp only[BK.st]
    rw[W_];exact yR
   ·simp only[BK.st]at hd
    have hp':s.Hg[i]? =some (s.Hg[i]'(by omega)):=ALk _;have hng:s.Hg[i]'(by omega)≠ .gone:=fun hg' =>by
     obtain⟨z,z1,_⟩:=gi id (u:=v.2) hp';apply hd;rw[z1]
     generalize s.Hg[i]'(by omega)=pp at z hg'
     subst hg';rfl
    have hm1:=hext.2 i i (by have:=nK (i:=0) (n:=c.ins.Hg.length) hp' hng (by omega);simpa using this);obtain⟨b,B,g1,g2,g3,_⟩:=ABU e1 i _ hp' hng;rw[hm1]at g1;cases g1;have hid:=hf.ids i i hm1;have AJg:=h.ids i hi (fun hd=>by rw[g2]at hd;cases hd;exact g3 rfl);rw[q1,q2];exact⟨hid.1.trans AJg.1,hid.2.trans AJg.2⟩
  have AJ9:=j3 n v u e2;obtain⟨kn',kx',kr',hfind,sa,hnp,hj⟩:=AMG hT hΓ hm hl hp hg ih UF;simp only[JU,hb,hfind]at AJ9;refine QO.ANM (AFJ hT hΓ hm (hnp.then _) (kn:=fun _ σ=>J n ℓ σ) ⟨fun E σ a w h e=> ?_,fun id E σ a w h e=>sa.x id E σ a w h e,sa.r⟩ hj Du AJ9);exact ih ℓ body Q' UF E σ a w h (e [])
include hT hΓ hm in
theorem AKa{f:Nat}(hf:AV3 P f fn c){J:Nat->Nat->St->Option c.outs.V}(hJ:∀code,fn.body=some code->AG9 C c fn code J)
  (hg:∀v u,c.g v=some u-> ∃n,∀ω,DR C c fn (J n) ω v=some u):Nj P f c:=by
 refine⟨hf.con,hf.call,fun E w v args u JO hB hS hgv=> ?_⟩;obtain⟨n,hn⟩:=hg v u hgv;cases hb:fn.body with
 |none=>
  have:=hn [];simp only[DR,hb]at this;cases this
 |some code=>
  simp only[DR,hb]at hn;refine calls_of_wp hf.at_ hb ?_
  have hp:ka (bodyPost P fn (ARa c E w u)):=fun ch a w' hq=>by
   obtain⟨_,x,E',hx,_⟩:=hq;cases hx
  have sa:Good E w fn.ntmps c.ins.Hg.length u (fun _=>yY C.T c fn.results.toList) (fun _ _ _=>none) (fun _=>yY C.T c fn.results.toList) (bodyPost P fn (ARa c E w u)):=
   ⟨fun E' σ a w' h e=>AAI hT h (e []),fun id E' σ a w' h e=>(by cases e []),fun E' σ a w' h e=>AAI hT h (e [])⟩
  have Du:Ok E w fn.ntmps c.ins.Hg.length E (c.ins.st fn.ntmps v) { tmps:=args++Array.replicate (fn.ntmps-args.size) undef,defers:=[] } w:=by
   have htm:Cr (XR E w (KJ.mk id c.ins.Hg v.2)) (G5.mk id c.ins.EK v.1 (List.replicate fn.ntmps (.c .undef))) (args++Array.replicate (fn.ntmps-args.size) undef).toList:=by
    rw[Array.toList_append];refine pP (mZ hS) (Cr.undef ?_);have:=hf.tmps;simp;omega
   refine⟨⟨rfl,htm,hB⟩,j6.refl E w,?_,by simp only[BK.st];rw[W_];exact AOd _,fun _ _ _=>⟨rfl,rfl⟩⟩;simp only[BK.st];rw[Cr.len htm];have:=hf.tmps;simp;omega
  exact AFJ hT hΓ hm hp sa (AK0 hT hΓ hm hb (hf.labels code hb) (hJ code hb) hp sa n) Du hn
end
end Go.Fw
end
section
namespace Go.Fw
def Gq:List Ty->Ty
 |[]=> .unit
 |c::l=> .cons c (Gq l)
def ACh(row:TypeId->Option (List Ty×Bool))(cells:TypeId->Nat):Nat->List Field->Option (List Ty)
 |_,[]=>some []
 |o,f::fs=>
  match row f.type with
  |some (l,_)=>if f.offset=o/\cells f.type=l.length then(ACh row cells (o+l.length) fs).map (l++ ·)else none
  |none=>none
def rE:List Ty×Bool->Ty
 |(l,true)=>Gq l
 |([c],false)=>c
 |_=> .unit
def rowOf(P:Program):Nat->TypeId->Option (List Ty×Bool)
 |0,_=>none
 |n+1,t=>
  match P.underlying t with
  |some (.int k)=>some ([.int k],false)
  |some .bool=>some ([.bool],false)
  |some .string=>some ([.str],false)
  |some (.slice e)=>
   match rowOf P n e with
   |some q=>if P.cellsOf e=q.1.length/\0<q.1.length then some ([.sl (rE q)],false)else none
   |none=>none
  |some (.struct fs)=>
   match ACh (rowOf P n) P.cellsOf 0 fs.toList with
   |some l=>if P.cellsOf t=l.length then some (l,true)else none
   |none=>none
  |_=>none
def Vd:(t:Ty)->t.D->Prop
 | .int k,x=>(Lit.int k x).wf=true
 | .bool,_=>True
 | .str,x=>List.length x<=maxLen
 | .sl r,x=>List.length x<=maxLen/\ ∀y∈x,Vd r y
 | .unit,_=>True
 | .cons c r,x=>Vd c x.1/\Vd r x.2
theorem pq{α:Type}{p:Nat->α->Prop}:∀{n:Nat},(∀i,i<n-> ∃y,p i y)-> ∃x:List α,x.length=n/\ ∀(i:Nat) y,x[i]? =some y->p i y
 |0,_=>⟨[],rfl,fun i y h=>by simp at h⟩
 |n+1,h=>by
  obtain⟨x,h1,h2⟩:=pq (n:=n) (p:=p) (fun i hi=>h i (by omega));obtain⟨y,hy⟩:=h n (by omega);refine⟨x++[y],by simp[h1],fun i z hz=> ?_⟩;grind
theorem AAE{w:World}{B:Nat->Prop}:∀{l m:List Ty} {cs ds:List Value} {x:(Gq l).D} {y:(Gq m).D},Rd w B (Gq l) cs x->Rd w B (Gq m) ds y->Vd (Gq l) x->Vd (Gq m) y->
  ∃z:(Gq (l++m)).D,Rd w B (Gq (l++m)) (cs++ds) z/\Vd (Gq (l++m)) z
 |[],m,cs,ds,x,y,h,k,hx,hy=>by
  simp only[Gq,Rd]at h;subst h;exact⟨y,k,hy⟩
 |c::l,m,cs,ds,x,y,h,k,hx,hy=>by
  simp only[Gq,Rd]at h;obtain⟨v,r,rfl,h1,h2⟩:=h;obtain⟨z,z1,z2⟩:=AAE h2 k hx.2 hy;exact⟨(x.1,z),by simp only[ASn,Gq,Rd];exact⟨v,r++ds,rfl,h1,z1⟩,hx.1,z2⟩
theorem AHY{P:Program}{n:Nat}{t:TypeId}{l:List Ty}(h:rowOf P n t=some (l,false)):∃c,l=[c]:=by
 cases n with
 |zero=>simp[rowOf]at h
 |succ n=>
  simp only[rowOf]at h;grind
theorem ABh{w:World}{B:Nat->Prop}{P:Program}{n:Nat}{t:TypeId}{q:List Ty×Bool}(h:rowOf P n t=some q){cs:List Value}{x:(Gq q.1).D}(hx:Rd w B (Gq q.1) cs x)(hv:Vd (Gq q.1) x):
  (rE q).n=q.1.length/\ ∃y:(rE q).D,Rd w B (rE q) cs y/\Vd (rE q) y:=by
 obtain⟨l,b⟩:=q;cases b with
 |true=>
  refine⟨?_,x,hx,hv⟩;clear h hx hv x;simp only[rE]
  induction l with
  |nil=>rfl
  |cons c l ih=>simp[Gq,Ty.n,ih]
 |false=>
  obtain⟨c,rfl⟩:=AHY h;simp only[Gq,Rd]at hx;obtain⟨v,r,rfl,h1,h2⟩:=hx;subst h2;refine⟨?_,x.1,h1,hv.1⟩;have:=qj h1;grind[rE]
theorem AHZ(a:Addr):a.add 0=a:=by rfl
theorem AH8{w:World}{a:Addr}{v:Value}(h:w.cell? a=some v):a.spot=none:=by
 unfold World.cell? at h;split at h
 all_goals simp_all
section
variable{H:Type} {enc:TypeId×Value->H} {P:Program} {w:World} {spare:Nat->Bool} {held:Bool}
theorem o_:∀(n:Nat) {t:TypeId} {q:List Ty×Bool},rowOf P n t=some q-> ∀{fuel:Nat} {cs:List Value} {x:DataW H×List MemPlace},DataW.trod enc P w 0 spare held fuel t cs=some x->
  ∃y:(Gq q.1).D,Rd w (fun b=>b<w.heap.size) (Gq q.1) cs y/\Vd (Gq q.1) y
 |0,t,q,h,_,_,_,_=>by simp[rowOf]at h
 |n+1,t,q,h,fuel,cs,x,hx=>by
  simp only[rowOf]at h;split at h
  ·rename_i k hu
   cases h;obtain⟨m,rfl,_,hw⟩:=DataW.trod_int hu hx;exact⟨(m,()),by simp[Gq,Rd],hw,trivial⟩
  ·rename_i hu
   cases h;obtain⟨b,rfl,_⟩:=DataW.trod_bool hu hx;exact⟨(b,()),by simp[Gq,Rd],trivial,trivial⟩
  ·rename_i hu
   cases h;obtain⟨s,rfl,_,hs⟩:=DataW.trod_string hu hx;refine⟨(s.data.toList,()),by simp[Gq,Rd],?_,trivial⟩
   show s.data.toList.length<=maxLen
   simp_all
  ·rename_i e hu
   split at h
   case h_2=>cases h
   rename_i q' hq';split at h
   case isFalse=>cases h
   rename_i AJI;cases h;rcases DataW.trod_slice hu hx with⟨rfl,_⟩|⟨a,len,cap,elems,rest,m,_,rfl,_,_,hlc,hcm,Xj,UF,_,_⟩
   ·refine⟨([],()),?_,⟨by simp,by simp⟩,trivial⟩
    simp only[Gq,Rd];simp_all
   ·have each:∀i,i<len-> ∃y:(rE q').D,Vd (rE q') y/\ ∃ds,ds.length=(rE q').n/\(∀j,j<ds.length->w.cell? ((a.add (i*P.cellsOf e)).add j)=ds[j]?)/\Rd w (fun b=>b<w.heap.size) (rE q') ds y:=by
     intro i hi;have hz:elems[i]? =some (elems[i]'(by omega)):=ALk _;have h1:=UF i hi;rw[hz,AMp]at h1;obtain⟨ds,hds,htr⟩:=h1;obtain⟨z,z1,z2⟩:=o_ n hq' htr;obtain⟨_,c1,c2⟩:=World.cells?_some hds
     grind[ABh]
    obtain⟨xs,x1,x2⟩:=pq each;refine⟨(xs,()),?_,⟨by grind,fun y hy=> ?_⟩,trivial⟩
    ·simp only[Gq,Rd]
     refine⟨_,[],rfl,⟨_,cap,by rw[x1],by omega,?_⟩,rfl⟩;by_cases h0:len=0
     ·omega
     right
     obtain⟨y0,_,ds0,d0,d1,_⟩:=each 0 (by omega);have hn0:0<(rE q').n:=by
      rw[d0.symm];have hz:elems[0]? =some (elems[0]'(by omega)):=ALk _;have h1:=UF 0 (by omega);rw[hz,AMp]at h1;obtain⟨ds,hds,htr⟩:=h1;obtain⟨z,z1,z2⟩:=o_ n hq' htr;grind[ABh]
     have hc0:=d1 0 (by omega);simp only[Nat.zero_mul,AHZ]at hc0;have hcs:w.cell? a=some (ds0[0]'(by omega)):=by simp_all
     have hsp:=AH8 hcs;obtain⟨b,o,s⟩:=a;simp only at hsp;subst hsp;refine⟨b,o,rfl,?_,fun i y hy=> ?_⟩
     ·grind[World.cell?,Array.getElem?_eq_some_iff]
     ·have hil:=(AL1.1 hy).1
      obtain⟨_,ds,e0,e1,e2⟩:=x2 i y hy;have hcn:P.cellsOf e=(rE q').n:=by
       have hz:elems[i]? =some (elems[i]'(by omega)):=ALk _;have h1:=UF i (by omega);rw[hz,AMp]at h1;obtain⟨ds,hds,htr⟩:=h1;obtain⟨z,z1,z2⟩:=o_ n hq' htr;grind[ABh]
      refine⟨ds,e0,fun j v hj=> ?_,e2⟩;grind[List.getElem?_eq_some_iff,Addr.add_eq]
    ·obtain⟨i,hi,rfl⟩:=AQD hy
     exact(x2 i _ (ALk hi)).1
  ·rename_i fs hu
   split at h
   case h_2=>cases h
   rename_i l hl;split at h
   case isFalse=>cases h
   rename_i dA;cases h;obtain⟨xs,m,_,_,hlen,hxs,UF⟩:=DataW.trod_struct hu hx;have key:∀(fs:List Field) (o:Nat) (l:List Ty) (i0:Nat),ACh (rowOf P n) P.cellsOf o fs=some l->cs.length=o+l.length->(∀(i:Nat) (f:Field),fs[i]? =some f-> ∃z,DataW.trod enc P w 0 spare held m f.type ((cs.drop f.offset).take (P.cellsOf f.type))=some z)->
     ∃y:(Gq l).D,Rd w (fun b=>b<w.heap.size) (Gq l) (cs.drop o) y/\Vd (Gq l) y:=by
    intro fs
    induction fs with
    |nil=>
     intro o l i0 hl hc _;simp only[ACh,ALl]at hl;subst hl;refine⟨(),?_,trivial⟩;simp only[Gq,Rd];simp_all
    |cons f fs ih=>
     intro o l i0 hl hc UF;simp only[ACh]at hl;split at hl
     case h_2=>cases hl
     rename_i l1 b1 hr;split at hl
     case isFalse=>cases hl
     rename_i hof;simp only[ALs]at hl;obtain⟨l2,lx,rfl⟩:=hl;obtain⟨z,hz⟩:=UF 0 f rfl;obtain⟨y1,a1,a2⟩:=o_ n hr hz;obtain⟨y2,b1,b2⟩:=ih (o+l1.length) l2 0 lx (by grind) (fun i f hf=>UF (i+1) f (by simp_all));grind[AAE,List.drop_drop,List.take_append_drop]
   have:=key fs.toList 0 l 0 hl (by omega) (fun i f hf=>by
    grind)
   simp_all
  simp_all
end
end Go.Fw
end
section
open Go.RowKit
namespace Go.Fw
def AA7(W:World):Env:={ Iz:=fun _=>0,I0:=fun _=> .nilFunc,T:=fun b=>b<W.heap.size,S:=fun b=>b<W.heap.size }
abbrev xW:BK:=⟨[(0,.c (.v .bool))],[]⟩
theorem AHx{P:Program}{f:Nat}{EK:List (Nat×XP)}{g:BK.V ⟨EK,[]⟩->Option xW.V}(hs:Nj P f ⟨⟨EK,[]⟩,xW,g⟩){W:World}{args:Array Value}(x:G5.V EK)(hlen:args.size=EK.length)(hgi:∀w':World,(∀c,c<W.heap.size->w'.heap[c]? =W.heap[c]?)->GI w')
  (hx:Np (AA7 W) W [] id EK x args.toList) (hg:g (x,())=some ((true,()),())):Calls P f args W fun e W' =>e= .returned (.bool true)/\Below W.heap.size W W':=by
 obtain⟨_,_,h⟩:=hs;refine(h (AA7 W) W (x,()) args _ hlen ⟨[],⟨rfl,fun k B F h=>by simp[KJ.mk]at h⟩,by simp,by simp,by simp,fun _ h=>h,fun _ h=>h,hgi⟩ hx hg).mono fun e W' hR=> ?_
 obtain⟨v,E',rfl,base,_,⟨⟨v',hv,hxr⟩,_⟩,_⟩:=hR;simp at hv;subst hv;have:v= .bool true:=by
  have h2:VR E' W' [] (.v .bool true) v:=hxr;exact Uh h2
 subst this;exact⟨rfl,base.os,base.tape,base.output,base.size,fun k hk=>base.heap k hk⟩
theorem ANy{W:World}{vw:List Bx}{s:Bool}{r:Ty}{v:Value}{y:List r.D}(h:Rd W (fun b=>b<W.heap.size) (.sl r) [v] y):XR (AA7 W) W vw (XP.mk id (.c (.sl s r)) y) v:=by
 show Rd W (if s then _ else _) (.sl r) [v] y
 cases s<;>exact h
end Go.Fw
end
section
namespace Go.Fw
def UE:List (Nat×Rt)->Nat->Option Rt
 |[],_=>none
 |(f,c)::l,g=>if f=g then some c else UE l g
def ANR(P:Program):List (Nat×Rt)->Prop
 |[]=>True
 |q::l=>Nj P q.1 q.2/\ANR P l
theorem v8{P:Program}:∀{l:List (Nat×Rt)},ANR P l->oA P (UE l)
 |[],_=>fun f c e=>by cases e
 |(g,d)::l,h=>fun f c e=>by
  simp only[UE]at e;split at e
  ·rename_i hg
   cases e;subst hg;exact h.1
  ·exact v8 h.2 f c e
theorem cI{P:Program}{f:Nat}{fn:Func}(hf:P.funcs[f]? =some fn)(hn:(fn.name== "runtime.NumGoroutine")=false)(hb:fn.body.isNone=false)(args:Array Value)(w:World):
  (callFunc f args).run P w= .ok (.enter f args) w:=by
 have h1:fn.name≠ "runtime.NumGoroutine" :=by simp_all
 have h2:fn.body≠none:=by
  grind
 simp[callFunc,hf,h1,h2]
def pI(fn:Func)(c:Rt):Bool:=
 !(
  fn.name== "runtime.NumGoroutine")&& !fn.body.isNone&&c.ok&&decide (c.ins.EK.length<=fn.ntmps)&&(match fn.body with
  |some code=>decide (labels code).Nodup
  |none=>true)
theorem AcA{P:Program}{f:Nat}{fn:Func}{c:Rt}(hf:P.funcs[f]? =some fn)(h:pI fn c=true):AV3 P f fn c:=by
 simp only[pI,AL8,ASW,AM7]at h;obtain⟨⟨⟨⟨h1,h2⟩,h3⟩,h4⟩,h5⟩:=h;refine⟨hf,cI hf h1 h2,h3,h4,fun code hc=> ?_⟩;simp_all
def m_(C:fX)(c:Rt)(fn:Func)(J:Nat->Nat->St->Option c.outs.V):List Nat->Prop
 |[]=>True
 | ℓ ::l=>(∃(s:BK) (F:Nat->s.V->Option c.outs.V),(∀n,J n ℓ =jump c.ins.Hg.length s (F n))/\(∀v,F 0 v=none)/\
  ∀n v,∀ω,JU C c fn (J n) ℓ ω (s.st fn.ntmps v)=F (n+1) v)/\m_ C c fn J l
theorem m_.ok{C:fX}{c:Rt}{fn:Func}{J:Nat->Nat->St->Option c.outs.V}:∀{l:ABu},m_ C c fn J l-> ∀ ℓ ∈l,∃(s:BK) (F:Nat->s.V->Option c.outs.V),(∀n,J n ℓ =jump c.ins.Hg.length s (F n))/\(∀v,F 0 v=none)/\
  ∀n v y,F (n+1) v=some y-> ∀ω,JU C c fn (J n) ℓ ω (s.st fn.ntmps v)=some y
 |[],_,ℓ,h=>by cases h
 |k::l,hl,ℓ,h=>by
  rcases AO3.1 h with rfl|h
  ·obtain⟨⟨s,F,h1,h2,h3⟩,_⟩:=hl
   exact⟨s,F,h1,h2,fun n v y e ω=>(h3 n v ω).trans e⟩
  ·exact m_.ok hl.2 ℓ h
def o3(fn:Func):ABu:=
 match fn.body with
 |some code=>labels code
 |none=>[]
def Cn:List AIa->Nat->List Nat
 |[],_=>[]
 |(r,h)::l,q=>if r=q then h else Cn l q
theorem ALA{P:Program}{T:Ky}{l:List (Nat×Rt)}{hint:Nat->List Nat}{f:Nat}{fn:Func}{c:Rt}(hT:E_ P T)(hm:P.follows .mixedOrders=true)(hf:P.funcs[f]? =some fn)(hl:ANR P l)(hc:pI fn c=true)
  {J:Nat->Nat->St->Option c.outs.V} {L:ABu} (hL:o3 fn=L) (hJ:m_ ⟨T,UE l,hint⟩ c fn J L) (n:Nat) (he:∀ω v,DR ⟨T,UE l,hint⟩ c fn (J n) ω v=c.g v):Nj P f c:=
 AKa (C:=⟨T,UE l,hint⟩) hT (v8 hl) hm (AcA hf hc) (J:=J) (fun code hb ℓ hℓ =>m_.ok hJ ℓ (by
  grind[o3])) fun v u hg=>⟨n,fun ω=>(he ω v).trans hg⟩
end Go.Fw
end
section
namespace Go.M
abbrev C7:Nat:=Go.Fw.C7
def AQ(x:Int):Int:=IntKind.wrap .i64 x
def w8(x:Int):Int:=IntKind.wrap .u8 x
def jq(κ:IntKind)(a b:Int):Int:=κ.wrap (BitVec.ofInt κ.bits a &&& BitVec.ofInt κ.bits b).toNat
def bOr(κ:IntKind)(a b:Int):Int:=κ.wrap (BitVec.ofInt κ.bits a ||| BitVec.ofInt κ.bits b).toNat
def ARv(κ:IntKind)(a b:Int):Int:=κ.wrap (BitVec.ofInt κ.bits a ^^^ BitVec.ofInt κ.bits b).toNat
theorem vt:∃n:Nat,2^64<=n:=⟨_,AOd _⟩
noncomputable def AU:Nat:=Classical.choose vt
theorem Xs:2^64<=AU:=Classical.choose_spec vt
def AB1{α:Type}(p:Int)(v l:List α):Option (List α):=if 0<=p/\p<=(l.length:Int)/\l.length+v.length<=C7 then some (l.take p.toNat++v++l.drop p.toNat)else none
def AJ_{α:Type}(p q:Int)(l:List α):Option (List α):=if 0<=p/\p<=q/\q<=(l.length:Int)then some (l.take p.toNat++l.drop q.toNat)else none
end Go.M
end
section
namespace Go.Fw
structure SP (P:Program) where
 f:Nat
 c:Rt
 h:Nj P f c
def SP.l{P:Program}:List (SP P)->List (Nat×Rt)
 |[]=>[]
 |s::l=>(s.f,s.c)::SP.l l
theorem AGN{P:Program}:∀l:List (SP P),ANR P (SP.l l)
 |[]=>trivial
 |s::l=>⟨s.h,AGN l⟩
@[reducible] def AP.Cu (R:Type):AP->Type
 | .yP _ rs=>eZ rs->R
 | .v t=>t.D->R
 | .sl _ r=>List r.D->R
 | .uT r=>r.D->R
 | .sH _ _=>Nat×Nat->R
 |_=>R
def AP.un{R:Type}:(p:AP)->p.Cu R->p.V->R
 | .yP _ _,f,x=>f x
 | .v _,f,x=>f x
 | .sl _ _,f,x=>f x
 | .uT _,f,x=>f x
 | .sH _ _,f,x=>f x
 | .nil,f,_=>f
 | .ref _,f,_=>f
 | .ptr _ _,f,_=>f
 | .fn _ _,f,_=>f
 | .any,f,_=>f
@[reducible] def cy.Cu (R:Type):List AP->Type
 |[]=>R
 |p::l=>p.Cu (cy.Cu R l)
def cy.un{R:Type}:(l:List AP)->cy.Cu R l->cy.V l->R
 |[],f,_=>f
 |p::l,f,x=>cy.un l (p.un f x.1) x.2
@[reducible] def dU.Cu (R:Type):List (AP ⊕ List AP)->Type
 |[]=>R
 | .inl p::l=>p.Cu (dU.Cu R l)
 | .inr q::l=>cy.Cu (dU.Cu R l) q
def dU.un{R:Type}:(l:List (AP ⊕ List AP))->dU.Cu R l->dU.V l->R
 |[],f,_=>f
 | .inl p::l,f,x=>dU.un l (p.un f x.1) x.2
 | .inr q::l,f,x=>dU.un l (cy.un q f x.1) x.2
@[reducible] def XP.Cu (R:Type):XP->Type
 | .c p=>p.Cu R
 | .agg l=>cy.Cu R l
 | .row r=>r.D->R
 | .NM l=>dU.Cu R l
def XP.un{R:Type}:(p:XP)->p.Cu R->p.V->R
 | .c p,f,x=>p.un f x
 | .agg l,f,x=>cy.un l f x
 | .row _,f,x=>f x
 | .NM l,f,x=>dU.un l f x
@[reducible] def BP.Cu (R:Type):BP->Type
 | .mem l=>cy.Cu R l
 | .sl _ r=>List r.D->R
 | .gone=>R
def BP.un{R:Type}:(p:BP)->p.Cu R->p.V->R
 | .mem l,f,x=>cy.un l f x
 | .sl _ _,f,x=>f x
 | .gone,f,_=>f
@[reducible] def G5.Cu (R:Type):List (Nat×XP)->Type
 |[]=>R
 |(_,p)::l=>p.Cu (G5.Cu R l)
def G5.un{R:Type}:(l:List (Nat×XP))->G5.Cu R l->G5.V l->R
 |[],f,_=>f
 |(_,p)::l,f,x=>G5.un l (p.un f x.1) x.2
@[reducible] def KJ.Cu (R:Type):List BP->Type
 |[]=>R
 |p::l=>p.Cu (KJ.Cu R l)
def KJ.un{R:Type}:(l:List BP)->KJ.Cu R l->KJ.V l->R
 |[],f,_=>f
 |p::l,f,x=>KJ.un l (p.un f x.1) x.2
@[reducible] def BK.Cu (s:BK) (R:Type):Type:=G5.Cu (KJ.Cu R s.Hg) s.EK
def BK.un{R:Type}(s:BK)(f:s.Cu R)(v:s.V):R:=KJ.un s.Hg (G5.un s.EK f v.1) v.2
structure Lp (o:BK) where
 ℓ :Nat
 s:BK
 F:Nat->s.Cu (Option o.V)
def Nz{o:BK}(nb:Nat):List (Lp o)->Nat->Nat->St->Option o.V
 |[],_,_,_=>none
 |p::l,n,ℓ,σ=>if ℓ =p.ℓ then jump nb p.s (p.s.un (p.F n)) σ else Nz nb l n ℓ σ
inductive bG (C:fX) (c:Rt) (fn:Func) (J:Nat->Nat->St->Option c.outs.V):List (Lp c.outs)->Prop
 |nil:bG C c fn J []
 |cons {ℓ :Nat} {s:BK} {F:Nat->s.Cu (Option c.outs.V)} {l:List (Lp c.outs)} (h0:∀v,s.un (F 0) v=none) (h1:∀n v ω,JU C c fn (J n) ℓ ω (s.st fn.ntmps v)=s.un (F (n+1)) v) (h:bG C c fn J l):bG C c fn J (⟨ℓ,s,F⟩::l)
def Lp.ls{o:BK}:List (Lp o)->List Nat
 |[]=>[]
 |p::l=>p.ℓ ::Lp.ls l
theorem AJF{o:BK}{nb:Nat}:∀{l:List (Lp o)} (n:Nat) {ℓ :Nat} (p:Lp o) (pre:List (Lp o)),ℓ =p.ℓ ->(Lp.ls (pre++p::l)).Nodup->Nz nb (pre++p::l) n ℓ =jump nb p.s (p.s.un (p.F n))
 |l,n,ℓ,p,[],e,_=>by
  funext σ
  simp[Nz,e]
 |l,n,ℓ,p,q::pre,e,hn=>by
  funext σ
  have hq: ℓ ≠q.ℓ :=by
   intro h;simp only[ASn,Lp.ls,ATq]at hn;refine hn.1 ?_
   rw[<-h,e];clear hn h e
   induction pre with
   |nil=>simp[Lp.ls]
   |cons a m ih=>simp[Lp.ls,ih]
  have:=congrFun (AJF (nb:=nb) (l:=l) n p pre e (by grind[Lp.ls,List.nodup_cons])) σ;simp only[ASn,Nz,ALj hq];omega
theorem bG.ok{C:fX}{c:Rt}{fn:Func}{nb:Nat}(hb:nb=c.ins.Hg.length){L:List (Lp c.outs)}(hn:(Lp.ls L).Nodup):∀{l pre:List (Lp c.outs)},L=pre++l->bG C c fn (Nz nb L) l->m_ C c fn (Nz nb L) (Lp.ls l)
 |[],_,_,_=>trivial
 |⟨ℓ,s,F⟩::l,pre,e,.cons h0 h1 h=>by
  refine⟨⟨s,fun n=>s.un (F n),fun n=> ?_,h0,fun n v ω=>h1 n v ω⟩,bG.ok hb hn (pre:=pre++[⟨ℓ,s,F⟩]) (by simp[e]) h⟩;subst hb;rw[e];exact AJF n ⟨ℓ,s,F⟩ pre rfl (by simp_all)
def mkP{P:Program}{T:Ky}(hT:E_ P T)(hm:P.follows .mixedOrders=true){f:Nat}{fn:Func}(hf:P.funcs[f]? =some fn)(i o:BK)(g:i.Cu (Option o.V))(l:List (SP P))(h:List AIa)(L:List (Lp o))(n:Nat)
  (hL:o3 fn=Lp.ls L) (hd:decide (Lp.ls L).Nodup=true) (hc:pI fn ⟨i,o,i.un g⟩=true)
  (hJ:bG ⟨T,UE (SP.l l),Cn h⟩ ⟨i,o,i.un g⟩ fn (Nz i.Hg.length L) L)
  (he:∀ω v,DR ⟨T,UE (SP.l l),Cn h⟩ ⟨i,o,i.un g⟩ fn (Nz i.Hg.length L n) ω v=i.un g v):SP P:=
 ⟨f,⟨i,o,i.un g⟩,ALA (l:=SP.l l) hT hm hf (AGN l) hc (J:=Nz i.Hg.length L) (L:=Lp.ls L) hL (bG.ok rfl (by simpa using hd) (pre:=[]) rfl hJ) n he⟩
theorem AE{Q:List Bool->Prop}(a:Q [])(b:∀ω,Q (false::ω))(d:∀ω,Q (true::ω)):∀ω,Q ω
 |[]=>a
 |false::ω=>b ω
 |true::ω=>d ω
end Go.Fw
end
section
namespace Go.Fw
open Go.Proofs Go.Shelf Go.RowKit Go.Lib
structure kQ (P:Program) (ρ:Ren) (nm:String) (fv:Func):Prop where
 mixed:P.follows .mixedOrders=true
 f22:P.funcs[ρ.f 22]? =some { Body2.n22 ρ with name:=nm }
 n22:(nm== "runtime.NumGoroutine")=false
 f29:P.funcs[ρ.f 29]? =some fv
 n29:(fv.name== "runtime.NumGoroutine")=false
 b29:fv.body.isNone=true
 e29:Extern.findNext fv=none
 nL:Extern.find fv=some (Extern.SlicesOverlaps.overlaps #[(ρ.t 24),(ρ.t 24)] #[(ρ.t 4)])
 t0:P.underlying (ρ.t 0)=some (TypeDesc.tuple #[])
 a0:∀w,(isAgg (ρ.t 0)).run P w= .ok false w
 z0:∀w,(Go.sizeOf (ρ.t 0)).run P w= .ok 1 w
 v0:∀w,(zeroValue (ρ.t 0)).run P w= .ok (Value.tuple #[]) w
 t3:P.underlying (ρ.t 3)=some (TypeDesc.int IntKind.i64)
 a3:∀w,(isAgg (ρ.t 3)).run P w= .ok false w
 z3:∀w,(Go.sizeOf (ρ.t 3)).run P w= .ok 1 w
 v3:∀w,(zeroValue (ρ.t 3)).run P w= .ok (Value.int IntKind.i64 0) w
 t4:P.underlying (ρ.t 4)=some (TypeDesc.bool)
 a4:∀w,(isAgg (ρ.t 4)).run P w= .ok false w
 z4:∀w,(Go.sizeOf (ρ.t 4)).run P w= .ok 1 w
 v4:∀w,(zeroValue (ρ.t 4)).run P w= .ok (Value.bool false) w
 t24:P.underlying (ρ.t 24)=some (TypeDesc.slice (ρ.t 9))
 a24:∀w,(isAgg (ρ.t 24)).run P w= .ok false w
 z24:∀w,(Go.sizeOf (ρ.t 24)).run P w= .ok 1 w
 v24:∀w,(zeroValue (ρ.t 24)).run P w= .ok (Value.slice none 0 0) w
section
variable{P:Program} {ρ:Ren} {nm:String} {fv:Func}
theorem iq{w:World}{dT sT ty elem:TypeId}{i0:TypeInfo}{b o AU0 AcH ZM pd n:Nat}{a:Option Addr}{cs:List Value}(hu:P.underlying dT=some (.slice elem))(hi:P.info? elem=some i0)(hn:n=Nat.min ZM AU0)
  (APr:∀W:World,W=w->(Builtin.firstCells i0.size n (.slice a ZM pd)).run P W= .ok cs.toArray W) (wG:w.there b o cs.length) (h1:∀v∈cs,v.oneCell' =true):
  (Builtin.copy_ #[dT,sT] ty #[.slice (some ⟨b,o,none⟩) AU0 AcH,.slice a ZM pd]).run P w= .ok (goInt n) (w.setCells b o cs):=by
 have yS:=run_storeCells_cells (P:=P) b o cs 0 w (by simpa using fun j hj=>(wG j hj).1) (by simpa using fun j hj=>(wG j hj).2) h1;rw[ATL]at yS;have:=APr w rfl;simp[Builtin.copy_,run_underlying hu,Builtin.lenOf,sizeOf,typeInfo,hi,<-hn,this,yS]
set_option maxHeartbeats 4000000 in
set_option maxRecDepth 100000 in
theorem AJL(L:kQ P ρ nm fv){k:Nat}(z9:∀w,(Go.sizeOf (ρ.t 9)).run P w= .ok k w)(ad:Option Addr)(n c i:Nat)(va:Option Addr)(vc:Nat)(w:World)(hi:i<=n)(hnc:n<=c):
  Calls P (ρ.f 22) #[.slice ad n c,.int .i64 i,.slice va 0 vc] w fun e w' =>e= .returned (.slice ad n c)/\w' =w:=by
 have t0:=L.t0;have a0:=L.a0;have z0:=L.z0;have v0:=L.v0;have t3:=L.t3;have a3:=L.a3;have z3:=L.z3;have v3:=L.v3;have t4:=L.t4;have a4:=L.a4;have z4:=L.z4;have v4:=L.v4;have t24:=L.t24;have a24:=L.a24;have z24:=L.z24;have v24:=L.v24;have u0:=run_underlying L.t0;have u3:=run_underlying L.t3;have u4:=run_underlying L.t4;have Sc:=run_underlying L.t24;have mixed:=L.mixed
 go_enter L.f22,Body2.n22_ntmps ρ
 cases ad with
 |none=>
  go_wp2
  go_ret
  exact⟨rfl,rfl⟩
 |some a=>
  obtain⟨ab,ao,asp⟩:=a
  go_wp2
  all_goals (go_ret;exact⟨rfl,rfl⟩)
theorem qT{w:World}(tS tR e:TypeId)(ht:P.underlying tS=some (.slice e))(size:Nat)(hz:∀w,(Go.sizeOf e).run P w= .ok size w)
  (a b:Addr) (la ca lb cb:Nat) (jt:a.block≠b.block) (tA tB:TypeId) (kA kB:Nat)
  (hsa:w.shape? a.block=some (tA,kA)) (hsb:w.shape? b.block=some (tB,kB)) (hkA:kA≠0)
  (hfb:w.frozen? b=false) (hfe:w.frozen? { block:=b.block,off:=kB }=false):
  (Extern.SlicesOverlaps.overlaps #[tS,tS] #[tR] #[.slice (some a) la ca,.slice (some b) lb cb]).run P w= .ok (.bool false) w:=by
 have yR:(a.block !=b.block)=true:=by simp_all
 have AbQ:(a.block==b.block)=false:=by simp_all
 change Sem.run P (α:=Value) (do
  let some t:=(#[tS,tS]:Array TypeId)[0]?|stuck "slices.overlaps: no parameter types"
  let .slice elem<-underlying t|stuck "slices.overlaps: slice type expected"
  let size<-sizeOf elem
  match(some a:Option Addr),(some b:Option Addr)with
  |some a,some b=>
   if la=0\/lb=0\/size=0 then pure (Value.bool false)
   else if a.block !=b.block&&(<-frozen a)&&(<-frozen b)then unsupported .addressObserved
   else do
    if a.block !=b.block then do
     noView a;noView b
     if<-mayBeOne a b then return Value.bool ((<-choose (.extern "sameAddr.stringBytes" 2))==1)
    pure (Value.bool (a.block==b.block&&a.off<b.off+lb*size&&b.off<a.off+la*size))
  |_,_=>pure (Value.bool false)) w=_
 by_cases h0:la=0\/lb=0\/size=0
 ·simp[run_underlying ht,hz,h0]
 ·cases kA with
  |zero=>omega
  |succ kA=>
   cases hfa:w.frozen? a<;>cases hfae:w.frozen? { block:=a.block,off:=kA+1 }<;>
    simp[run_underlying ht,hz,h0,yR,AbQ,frozen,noView,viewAt,mayBeOne,stringish,shape,Sem.run,hsa,hsb,hfb,hfe,hfa,hfae]
set_option maxHeartbeats 4000000 in
set_option maxRecDepth 100000 in
theorem AHq(L:kQ P ρ nm fv){i0:TypeInfo}(hi0:P.info? (ρ.t 9)=some i0)(hs0:0<i0.size)(b off n c i:Nat)(va:Addr)(m vc:Nat)(cs vs:List Value)(w:World)(hi:i<n)(hm:0<m)(WG:n+m<=c)(aN:n+m<=C7)(hvb:va.block≠b)
  (dA:cs.length=n*i0.size) (hvl:vs.length=m*i0.size) (hcs:Bj w b off cs) (wG:w.there b off ((n+m)*i0.size))
  (Zu:∀W:World,W.heap[va.block]? =w.heap[va.block]?->(Builtin.firstCells i0.size m (.slice (some va) m vc)).run P W= .ok vs.toArray W) (h1c:∀v∈cs,v.oneCell' =true) (h1v:∀v∈vs,v.oneCell' =true)
  (tA tB:TypeId) (kA kB:Nat) (hsa:w.shape? va.block=some (tA,kA)) (hsb:w.shape? b=some (tB,kB)) (hkA:kA≠0) (hfe:w.frozen? ⟨b,kB,none⟩=false):
  Calls P (ρ.f 22) #[.slice (some ⟨b,off,none⟩) n c,.int .i64 i,.slice (some va) m vc] w fun e w' =>
   e= .returned (.slice (some ⟨b,off,none⟩) (n+m) c)/\ ∃W:World,W.heap=w.heap/\Grown w W/\w' =(W.setCells b (off+(i+m)*i0.size) (cs.drop (i*i0.size))).setCells b (off+i*i0.size) vs:=by
 have t0:=L.t0;have a0:=L.a0;have z0:=L.z0;have v0:=L.v0;have t3:=L.t3;have a3:=L.a3;have z3:=L.z3;have v3:=L.v3;have t4:=L.t4;have a4:=L.a4;have z4:=L.z4;have v4:=L.v4;have t24:=L.t24;have a24:=L.a24;have z24:=L.z24;have v24:=L.v24;have u0:=run_underlying L.t0;have u3:=run_underlying L.t3;have u4:=run_underlying L.t4;have Sc:=run_underlying L.t24;have z9:∀w,(Go.sizeOf (ρ.t 9)).run P w= .ok i0.size w:=fun w=>by simp[sizeOf,typeInfo,hi0]
 have mixed:=L.mixed;have ALN:=aN;simp only[C7]at ALN;have hz1: ¬((m:Int)=0):=by omega
 have hz2: ¬((i:Int)=(n:Int)):=by omega
 generalize hk:i0.size=k at*
 have hmul:(i+m)*k<=(n+m)*k:=AOV _ (by omega);have ALK:i*k<=n*k:=AOV _ (by omega);have JN:(i+m)*k<(n+m)*k:=Nat.mul_lt_mul_of_pos_right (by omega) hs0;have hnm:(n+m)*k=n*k+m*k:=AS5 ..;have him:(i+m)*k=i*k+m*k:=AS5 ..;have hov:∀lb cb,(callFunc (ρ.f 29) #[.slice (some va) m vc,.slice (some ⟨b,off+(i+m)*k,none⟩) lb cb]).run P w= .ok (.value (.bool false)) w:=fun lb cb=>by
  rw[run_callFunc_extern L.f29 L.n29 L.b29 L.e29 L.nL,
   qT (ρ.t 24) (ρ.t 4) (ρ.t 9) L.t24 k z9 va ⟨b,off+(i+m)*k,none⟩ m vc lb cb hvb tA tB kA kB hsa hsb hkA (wG _ JN).2 hfe]
  rfl
 have hdl:(cs.drop (i*k)).length=(n-i)*k:=by rw[AT7,dA,ATh]
 have hw1:IntKind.i64.wrap ((i:Int)+(m:Int))=(i:Int)+(m:Int):=by rw[IntKind.wrap_i64];omega
 have hb1:(0:Int)<=(i:Int)+(m:Int):=by omega
 have RW:i<=n:=by omega
 have htn:((i:Int)+(m:Int)).toNat=i+m:=by omega
 have hb2: ¬(c=i+m):=by omega
 have hb3:(i:Int)<=(n:Int)+(m:Int):=by omega
 have hb4: ¬(c=i):=by omega
 have AWE:∀ty dc sc,(Builtin.copy_ #[(ρ.t 24),(ρ.t 24)] ty #[.slice (some ⟨b,off+(i+m)*k,none⟩) (n+m-(i+m)) dc,.slice (some ⟨b,off+i*k,none⟩) (n+m-i) sc]).run P w.drew= .ok (goInt (n-i:Nat)) (w.drew.setCells b (off+(i+m)*k) (cs.drop (i*k))):=fun ty dc sc=>
  iq (n:=n-i) L.t24 hi0 (by simp only[Nat.min_def];split<;>omega) (fun W hW=>by
   subst hW;simp only[Builtin.firstCells,hk];have hl:Bj w.drew b (off+i*k) (cs.drop (i*k)):=fun j v hj=>by
    rw[ATm]at hj;have:=hcs _ v hj
    rwa [<-ATK]at this
   rw[<-hdl];exact Mr hl) (fun j hj=>by
    rw[hdl]at hj;have:(i+m)*k+j<(n+m)*k:=by
     rw[hnm,him];have:(n-i)*k=n*k-i*k:=ATh ..;omega
    have:=wG _ this;rw[<-ATK]at this;exact this) (fun v hv=>h1c v (ATc hv))
 obtain⟨W1,hW1⟩:∃W1,W1=w.drew.setCells b (off+(i+m)*k) (cs.drop (i*k)):=⟨_,rfl⟩;have AYy:W1.heap[va.block]? =w.heap[va.block]?:=by rw[hW1];exact Db _ _ _ _ _ hvb
 have ASs:W1.there b (off+i*k) vs.length:=fun j hj=>by
  rw[hvl]at hj;have h0:=wG (i*k+j) (by omega);rw[<-ATK]at h0;rw[hW1];refine⟨?_,?_⟩
  ·refine isSome_setCells b _ _ _ (fun t ht=> ?_) _ h0.1
   rw[hdl]at ht;have h2:(i+m)*k+t<(n+m)*k:=by
    rw[hnm,him];have:(n-i)*k=n*k-i*k:=ATh ..;omega
   have:=(wG _ h2).1;rw[<-ATK]at this;exact this
  ·rw[World.frozen?_setCells]
   exact h0.2
 have AZy:∀(W:World),(∀x,W.cell? x=W1.cell? x)->(∀x,W.frozen? x=W1.frozen? x)->W.heap=W1.heap-> ∀ty dc,(Builtin.copy_ #[(ρ.t 24),(ρ.t 24)] ty #[.slice (some ⟨b,off+i*k,none⟩) (n+m-i) dc,.slice (some va) m vc]).run P W= .ok (goInt m) (W.setCells b (off+i*k) vs):=fun W hWc hWf zo ty dc=>
  iq (n:=m) L.t24 hi0 (by simp only[Nat.min_def];split<;>omega) (fun V hV=>by subst hV;rw[hk];exact Zu _ (by rw[zo];exact AYy)) (fun j hj=>⟨by rw[hWc];exact(ASs j hj).1,by rw[hWf];exact(ASs j hj).2⟩) h1v
 rw[<-hW1]at AWE;obtain⟨vab,vao,vas⟩:=va;clear hmul ALK JN hnm him wG ASs hcs hdl
 go_enter L.f22,Body2.n22_ntmps ρ
 go_wp2_with (simp only[hov])
 go_region_law_o (refine step_copy_runI rfl _ _ (ρ.t 24) (ρ.t 24) rfl _ _ (by simp[Act.eval,Act.put]) (by simp[Act.eval,Act.put]) (AWE _ _ _) ?_)
 go_wp2_with (at_builtin;refine wpList_copy_runI _ rfl _ _ (ρ.t 24) (ρ.t 24) rfl _ _ rfl rfl (AZy _ (fun _=>rfl) (fun _=>rfl) rfl _ _) ?_)
 go_ret
 first|exact⟨rfl,_,rfl,⟨rfl,rfl,rfl,AOd _⟩,rfl⟩|exact⟨rfl,w.drew,rfl,⟨rfl,rfl,rfl,AOd _⟩,by first|rfl|rw[hW1]⟩
set_option maxHeartbeats 4000000 in
set_option maxRecDepth 100000 in
theorem AJP(L:kQ P ρ nm fv){i0:TypeInfo}(hi0:P.info? (ρ.t 9)=some i0)(b off n c:Nat)(va:Addr)(m vc:Nat)(vs:List Value)(w:World)(hm:0<m)(WG:n+m<=c)
  (wG:w.there b (off+n*i0.size) vs.length) (hn:rY P w i0.size m (.slice (some va) m vc) vs) (h1v:∀v∈vs,v.oneCell' =true):
  Calls P (ρ.f 22) #[.slice (some ⟨b,off,none⟩) n c,.int .i64 n,.slice (some va) m vc] w fun e w' =>
   e= .returned (.slice (some ⟨b,off,none⟩) (n+m) c)/\w' =w.setCells b (off+n*i0.size) vs:=by
 have t0:=L.t0;have a0:=L.a0;have z0:=L.z0;have v0:=L.v0;have t3:=L.t3;have a3:=L.a3;have z3:=L.z3;have v3:=L.v3;have t4:=L.t4;have a4:=L.a4;have z4:=L.z4;have v4:=L.v4;have t24:=L.t24;have a24:=L.a24;have z24:=L.z24;have v24:=L.v24;have u0:=run_underlying L.t0;have u3:=run_underlying L.t3;have u4:=run_underlying L.t4;have Sc:=run_underlying L.t24;have z9:∀w,(Go.sizeOf (ρ.t 9)).run P w= .ok i0.size w:=fun w=>by simp[sizeOf,typeInfo,hi0]
 have mixed:=L.mixed;have hz1: ¬((m:Int)=0):=by omega
 have rz:∀ty,(Builtin.append_ #[(ρ.t 24),(ρ.t 24)] ty #[.slice (some ⟨b,off,none⟩) n c,.slice (some va) m vc]).run P w=_:=fun ty=>
  mT (ts:= #[(ρ.t 24),(ρ.t 24)]) (ty:=ty) rfl rfl L.t24 (.inl ⟨_,L.t24⟩) hi0 rfl hn WG wG h1v
 clear wG hn
 generalize hk:i0.size=k at*
 obtain⟨vab,vao,vas⟩:=va
 go_enter L.f22,Body2.n22_ntmps ρ
 go_wp2_with (at_builtin;refine Lib.wpList_append_run _ rfl _ _ (ρ.t 24) (ρ.t 24) rfl _ _ rfl rfl _ _ (rz _) ?_)
 go_ret
 exact⟨rfl,rfl⟩
set_option maxHeartbeats 4000000 in
set_option maxRecDepth 100000 in
theorem ALV(L:kQ P ρ nm fv){i0:TypeInfo}{z:Value}(hi0:P.info? (ρ.t 9)=some i0)(hz:i0.zero=some z)(hby:i0.bytes<=512)(ad:Option Addr)(n c:Nat)(va:Addr)(m vc:Nat)(cs vs:List Value)(w:World)(hm:0<m)(hnc:n<=c)(WG:c<n+m)(aN:n+m<=C7)
  (ho:∀w',w'.heap=w.heap->(Builtin.firstCells i0.size n (.slice ad n c)).run P w' = .ok cs.toArray w') (hn:rY P w i0.size m (.slice (some va) m vc) vs):
  Calls P (ρ.f 22) #[.slice ad n c,.int .i64 n,.slice (some va) m vc] w fun e w' =>
   e= .returned (.slice (some ⟨w.heap.size,0,none⟩) (n+m) (grownCap w (n+m) c (ρ.t 9)))/\
   w' =w.drew.alloc (.cells (cs.toArray++vs.toArray++Builtin.zeroCells z.cells (grownCap w (n+m) c (ρ.t 9)-(n+m))) (ρ.t 9)):=by
 have t0:=L.t0;have a0:=L.a0;have z0:=L.z0;have v0:=L.v0;have t3:=L.t3;have a3:=L.a3;have z3:=L.z3;have v3:=L.v3;have t4:=L.t4;have a4:=L.a4;have z4:=L.z4;have v4:=L.v4;have t24:=L.t24;have a24:=L.a24;have z24:=L.z24;have v24:=L.v24;have u0:=run_underlying L.t0;have u3:=run_underlying L.t3;have u4:=run_underlying L.t4;have Sc:=run_underlying L.t24;have z9:∀w,(Go.sizeOf (ρ.t 9)).run P w= .ok i0.size w:=fun w=>by simp[sizeOf,typeInfo,hi0]
 have mixed:=L.mixed;have hz1: ¬((m:Int)=0):=by omega
 have rz:∀ty,(Builtin.append_ #[(ρ.t 24),(ρ.t 24)] ty #[.slice ad n c,.slice (some va) m vc]).run P w=_:=fun ty=>
  jJ (ts:= #[(ρ.t 24),(ρ.t 24)]) (ty:=ty) rfl rfl L.t24 (.inl ⟨_,L.t24⟩) hi0 hz rfl ho hn WG aN hby
 clear hn ho
 obtain⟨W1,hW1⟩:∃W1,W1=w.drew.alloc (.cells (cs.toArray++vs.toArray++Builtin.zeroCells z.cells (grownCap w (n+m) c (ρ.t 9)-(n+m))) (ρ.t 9)):=⟨_,rfl⟩;rw[<-hW1]at rz|-;clear hW1
 generalize hk:i0.size=k at*
 obtain⟨vab,vao,vas⟩:=va
 go_enter L.f22,Body2.n22_ntmps ρ
 cases ad with
 |none=>
  go_wp2_with (at_builtin;refine Lib.wpList_append_run _ rfl _ _ (ρ.t 24) (ρ.t 24) rfl _ _ rfl rfl _ _ (rz _) ?_)
  all_goals (go_ret;exact⟨rfl,rfl⟩)
 |some a=>
  obtain⟨ab,ao,asp⟩:=a
  go_wp2_with (at_builtin;refine Lib.wpList_append_run _ rfl _ _ (ρ.t 24) (ρ.t 24) rfl _ _ rfl rfl _ _ (rz _) ?_)
  all_goals (go_ret;exact⟨rfl,rfl⟩)
set_option maxHeartbeats 4000000 in
set_option maxRecDepth 100000 in
theorem AMM(L:kQ P ρ nm fv){i0:TypeInfo}{z:Value}(hi0:P.info? (ρ.t 9)=some i0)(hz:i0.zero=some z)(hzl:z.cells.size=i0.size)(hs0:0<i0.size)(hby:i0.bytes<=512)(b off n c i:Nat)(va:Addr)(m vc:Nat)(cs vs:List Value)(w:World)(hi:i<n)(hm:0<m)(hnc:n<=c)(WG:c<n+m)(aN:n+m<=C7)
  (dA:cs.length=n*i0.size) (hvl:vs.length=m*i0.size) (wE:b<w.heap.size) (hcs:Bj w b off cs) (hvw:va.block<w.heap.size)
  (Zu:∀W:World,W.heap[va.block]? =w.heap[va.block]?->(Builtin.firstCells i0.size m (.slice (some va) m vc)).run P W= .ok vs.toArray W) (h1c:∀v∈cs,v.oneCell' =true) (h1v:∀v∈vs,v.oneCell' =true):
  Calls P (ρ.f 22) #[.slice (some ⟨b,off,none⟩) n c,.int .i64 i,.slice (some va) m vc] w fun e w' =>
   e= .returned (.slice (some ⟨w.heap.size,0,none⟩) (n+m) (grownCap w (n+m) c (ρ.t 9)))/\
   ∃W:World,W.heap=w.heap.push (.cells ((cs.take (i*i0.size)).toArray++Builtin.zeroCells z.cells (n+m-i)++Builtin.zeroCells z.cells (grownCap w (n+m) c (ρ.t 9)-(n+m))) (ρ.t 9))/\W.os=w.os/\W.tape=w.tape/\W.output=w.output/\
    w' =(W.setCells w.heap.size (i*i0.size) vs).setCells w.heap.size ((i+m)*i0.size) (cs.drop (i*i0.size)):=by
 have t0:=L.t0;have a0:=L.a0;have z0:=L.z0;have v0:=L.v0;have t3:=L.t3;have a3:=L.a3;have z3:=L.z3;have v3:=L.v3;have t4:=L.t4;have a4:=L.a4;have z4:=L.z4;have v4:=L.v4;have t24:=L.t24;have a24:=L.a24;have z24:=L.z24;have v24:=L.v24;have u0:=run_underlying L.t0;have u3:=run_underlying L.t3;have u4:=run_underlying L.t4;have Sc:=run_underlying L.t24;have z9:∀w,(Go.sizeOf (ρ.t 9)).run P w= .ok i0.size w:=fun w=>by simp[sizeOf,typeInfo,hi0]
 have mixed:=L.mixed;have ALN:=aN;simp only[C7]at ALN;have hz1: ¬((m:Int)=0):=by omega
 have hz2: ¬((i:Int)=(n:Int)):=by omega
 have hz3:(c:Int)<(n:Int)+(m:Int):=by omega
 have hkk:(n:Int)+(m:Int)-(i:Int)=((n+m-i:Nat):Int):=by omega
 have hik:i+(n+m-i)=n+m:=by omega
 have ALK:i*i0.size<=n*i0.size:=AOV _ (by omega);have hnm:(n+m)*i0.size=n*i0.size+m*i0.size:=AS5 ..;have him:(i+m)*i0.size=i*i0.size+m*i0.size:=AS5 ..;have hni:(n-i)*i0.size=n*i0.size-i*i0.size:=ATh ..;have hold:(Builtin.firstCells i0.size i (.slice (some ⟨b,off,none⟩) i c)).run P w.drew= .ok (cs.take (i*i0.size)).toArray w.drew:=by
  simp only[Builtin.firstCells];have hl:(cs.take (i*i0.size)).length=i*i0.size:=by rw[ATk];omega
  have hca:Bj w.drew b off (cs.take (i*i0.size)):=fun j v hj=>by
   rw[ATn]at hj;split at hj
   ·exact hcs j v hj
   ·cases hj
  conv=>lhs;rw[<-hl]
  exact Mr hca
 have AUd:(n+m)*i0.bytes<=140737488355328:=by
  have:(n+m)*i0.bytes<=C7*512:=AWt aN hby;simp only[C7]at this;omega
 have APC:(n+m-i)*i0.bytes<=281474976710656:=by
  have:(n+m-i)*i0.bytes<=(n+m)*i0.bytes:=AOV _ (by omega);omega
 have hrz:∀ty,(Builtin.append_ #[(ρ.t 24),(ρ.t 3)] ty #[.slice (some ⟨b,off,none⟩) i c,.int .i64 ((n:Int)+(m:Int)-(i:Int))]).run P w=
   .ok (.slice (some ⟨w.heap.size,0,none⟩) (n+m) (grownCap w (n+m) c (ρ.t 9))) (w.drew.alloc (.cells ((cs.take (i*i0.size)).toArray++Builtin.zeroCells z.cells (n+m-i)++Builtin.zeroCells z.cells (grownCap w (n+m) c (ρ.t 9)-(n+m))) (ρ.t 9))):=fun ty=>by
  have h:=Lib.run_append_grow_zeros w (ρ.t 24) (ρ.t 3) ty (ρ.t 9) i0 z .i64 .i64 L.t24 L.t3 hi0 hz (some ⟨b,off,none⟩) i c (cs.take (i*i0.size)) hold (n+m-i) (by omega) hs0 (by omega) (by omega) APC (by rw[hik];exact growslice_fits WG AUd);rw[hik]at h;rw[hkk];exact h
 have hGn:n+m<=grownCap w (n+m) c (ρ.t 9):=grownCap_ge w _ _ _;have AZ3:grownCap w (n+m) c (ρ.t 9)<=9223372036854775807:=by
  have:=grownCap_le_maxLen w (n+m) c (ρ.t 9) (by unfold maxLen;omega);unfold maxLen at this;omega
 obtain⟨G,hG⟩:∃G,G=grownCap w (n+m) c (ρ.t 9):=⟨_,rfl⟩;rw[<-hG]at hrz hGn AZ3|-;obtain⟨ROW,AHL⟩:∃ROW:Array Value,ROW=(cs.take (i*i0.size)).toArray++Builtin.zeroCells z.cells (n+m-i)++Builtin.zeroCells z.cells (G-(n+m)):=⟨_,rfl⟩;rw[<-AHL]at hrz|-;have hRl:(n+m)*i0.size<=ROW.size:=by
  rw[AHL];simp only[AU1,AU6,size_zeroCells,hzl,ATk];have e1:(n+m-i)*i0.size=(n+m)*i0.size-i*i0.size:=ATh ..;omega
 obtain⟨W1,hW1⟩:∃W1,W1=w.drew.alloc (.cells ROW (ρ.t 9)):=⟨_,rfl⟩;rw[<-hW1]at hrz;have AUQ:W1.heap[w.heap.size]? =some (.cells ROW (ρ.t 9)):=by
  rw[hW1]
  show(w.heap.push (.cells ROW (ρ.t 9)))[w.heap.size]? =_
  simp
 have AKz:∀x,x<w.heap.size->W1.heap[x]? =w.heap[x]?:=fun x hx=>by rw[hW1];exact Jz hx
 have hN:∀o l,o+l<=(n+m)*i0.size->W1.there w.heap.size o l:=fun o l h=>X4 (k:=1) AUQ (by omega) (a8 _)
 have hdl:(cs.drop (i*i0.size)).length=(n-i)*i0.size:=by rw[AT7,dA,hni]
 have Abm:∀(W:World),(∀x,W.cell? x=W1.cell? x)->(∀x,W.frozen? x=W1.frozen? x)->W.heap=W1.heap-> ∀ty dc,(Builtin.copy_ #[(ρ.t 24),(ρ.t 24)] ty #[.slice (some ⟨w.heap.size,i*i0.size,none⟩) (n+m-i) dc,.slice (some va) m vc]).run P W= .ok (goInt m) (W.setCells w.heap.size (i*i0.size) vs):=fun W hWc hWf zo ty dc=>
  iq (n:=m) L.t24 hi0 (by simp only[Nat.min_def];split<;>omega) (fun V hV=>by subst hV;exact Zu _ (by rw[zo];exact AKz _ hvw)) (fun j hj=>by
   have:=hN (i*i0.size) (m*i0.size) (by omega) j (by omega);exact⟨by rw[hWc];exact this.1,by rw[hWf];exact this.2⟩) h1v
 have AWy:∀(W:World),(∀x,W.cell? x=(W1.setCells w.heap.size (i*i0.size) vs).cell? x)->(∀x,W.frozen? x=(W1.setCells w.heap.size (i*i0.size) vs).frozen? x)->W.heap=(W1.setCells w.heap.size (i*i0.size) vs).heap-> ∀ty dc sc,(Builtin.copy_ #[(ρ.t 24),(ρ.t 24)] ty #[.slice (some ⟨w.heap.size,(i+m)*i0.size,none⟩) (n+m-(i+m)) dc,.slice (some ⟨b,off+i*i0.size,none⟩) (n-i) sc]).run P W= .ok (goInt (n-i:Nat)) (W.setCells w.heap.size ((i+m)*i0.size) (cs.drop (i*i0.size))):=fun W hWc hWf zo ty dc sc=>
  iq (n:=n-i) L.t24 hi0 (by simp only[Nat.min_def];split<;>omega) (fun V hV=>by
   subst hV;simp only[Builtin.firstCells];rw[<-hdl];refine Mr fun j v hj=> ?_
   rw[ATm]at hj;have h3:=hcs _ v hj;rw[<-ATK]at h3;rw[<-h3];refine World.cell?_of_block (a:=⟨b,off+i*i0.size+j,none⟩) ?_
   rw[zo,Db _ _ _ _ _ (show b≠w.heap.size by omega)];exact AKz b wE) (fun j hj=>by
   have hb:W1.there w.heap.size ((i+m)*i0.size) (cs.drop (i*i0.size)).length:=hN _ _ (by omega);refine⟨?_,?_⟩
   ·rw[hWc]
    exact isSome_setCells _ _ _ _ (fun t ht=>(hN (i*i0.size) vs.length (by omega) t ht).1) _ (hb j hj).1
   ·rw[hWf,World.frozen?_setCells]
    exact(hb j hj).2) (fun v hv=>h1c v (ATc hv))
 generalize hk:i0.size=k at*
 have hE1:∀x,((w.alloc (.cells ROW (ρ.t 9))).drew).cell? x=W1.cell? x:=fun x=>by rw[hW1];rfl
 have hE2:∀x,((w.alloc (.cells ROW (ρ.t 9))).drew).frozen? x=W1.frozen? x:=fun x=>by rw[hW1];rfl
 have hE3:((w.alloc (.cells ROW (ρ.t 9))).drew).heap=W1.heap:=by rw[hW1];rfl
 have hF1:∀x,(((w.alloc (.cells ROW (ρ.t 9))).drew.setCells w.heap.size (i*k) vs).drew).cell? x=(W1.setCells w.heap.size (i*k) vs).cell? x:=fun x=>by rw[hW1];rfl
 have hF2:∀x,(((w.alloc (.cells ROW (ρ.t 9))).drew.setCells w.heap.size (i*k) vs).drew).frozen? x=(W1.setCells w.heap.size (i*k) vs).frozen? x:=fun x=>by rw[hW1];rfl
 have hF3:(((w.alloc (.cells ROW (ρ.t 9))).drew.setCells w.heap.size (i*k) vs).drew).heap=(W1.setCells w.heap.size (i*k) vs).heap:=by rw[hW1];rfl
 have hw1:IntKind.i64.wrap ((i:Int)+(m:Int))=(i:Int)+(m:Int):=by rw[IntKind.wrap_i64];omega
 have hb1:(0:Int)<=(i:Int)+(m:Int):=by omega
 have RW:i<=n:=by omega
 have htn:((i:Int)+(m:Int)).toNat=i+m:=by omega
 have hb3:(i:Int)<=(n:Int):=by omega
 have hGi: ¬(G=i):=by omega
 have AfC: ¬(G=i+m):=by omega
 have hci: ¬(c=i):=by omega
 subst hW1;clear hkk hik hold AHL hG hRl ALK hnm him hni hdl hN hcs Zu AUQ AKz AUd APC;obtain⟨vab,vao,vas⟩:=va
 go_enter L.f22,Body2.n22_ntmps ρ
 go_wp2_with (first
  |(at_builtin;refine Lib.wpList_append_run _ rfl _ _ _ _ rfl _ _ rfl rfl _ _ (hrz _) ?_)
  |(at_builtin;refine wpList_copy_runI _ rfl _ _ (ρ.t 24) (ρ.t 24) rfl _ _ rfl rfl (Abm _ hE1 hE2 hE3 _ _) ?_)
  |(at_builtin;refine wpList_copy_runI _ rfl _ _ (ρ.t 24) (ρ.t 24) rfl _ _ rfl rfl (AWy _ (fun _=>rfl) (fun _=>rfl) rfl _ _ _) ?_))
 go_region_law_o (refine step_copy_runI rfl _ _ (ρ.t 24) (ρ.t 24) rfl (.slice (some ⟨w.heap.size,(i+m)*k,none⟩) (n+m-(i+m)) (G-(i+m))) (.slice (some ⟨b,off+i*k,none⟩) (n-i) (c-i)) (by simp[Act.eval,Act.put]) (by simp[Act.eval,Act.put]) (AWy _ hF1 hF2 hF3 (ρ.t 3) (G-(i+m)) (c-i)) ?_)
 go_wp2
 go_ret
 refine⟨rfl,((w.alloc (.cells ROW (ρ.t 9))).drew).drew,rfl,rfl,rfl,rfl,?_⟩;rw[drew_setCells]
end
end Go.Fw
end
section
namespace Go.Fw
open Go.Proofs Go.Shelf Go.RowKit Go.Lib
def Flat(w:World)(r:Ty)(css:List (List Value))(rows:List r.D):Prop:=
 css.length=rows.length/\(∀c∈css,c.length=r.n)/\ ∀(i:Nat) cs y,css[i]? =some cs->rows[i]? =some y->Rd w (fun _=>False) r cs y
theorem Flat.to{w w':World}{r:Ty}(hf:r.flat=true){css:List (List Value)}{rows:List r.D}(h:Flat w r css rows):Flat w' r css rows:=
 ⟨h.1,h.2.1,fun i cs y a b=>ly hf (h.2.2 i cs y a b)⟩
theorem Flat.take{w:World}{r:Ty}{css:List (List Value)}{rows:List r.D}(h:Flat w r css rows)(n:Nat):Flat w r (css.take n) (rows.take n):=by
 refine⟨by simp[h.1],fun c hc=>h.2.1 c (ATu hc),fun i cs y a b=> ?_⟩;rw[ATn]at a b;split at a
 ·rename_i hi
  rw[ALi hi]at b;exact h.2.2 i cs y a b
 simp_all
theorem Flat.drop{w:World}{r:Ty}{css:List (List Value)}{rows:List r.D}(h:Flat w r css rows)(n:Nat):Flat w r (css.drop n) (rows.drop n):=by
 refine⟨by simp[h.1],fun c hc=>h.2.1 c (ATc hc),fun i cs y a b=> ?_⟩;rw[ATm]at a b;exact h.2.2 _ cs y a b
theorem Flat.append{w:World}{r:Ty}{css ess:List (List Value)}{rows AVa:List r.D}(h:Flat w r css rows)(k:Flat w r ess AVa):Flat w r (css++ess) (rows++AVa):=by
 refine⟨by simp[h.1,k.1],fun c hc=>(AOK.1 hc).elim (h.2.1 c) (k.2.1 c),fun i cs y a b=> ?_⟩;by_cases hi:i<rows.length
 ·rw[AOU (by rw[h.1];omega)]at a
  rw[AOU hi]at b;exact h.2.2 i cs y a b
 ·rw[AOt (by rw[h.1];omega)]at a
  rw[AOt (by omega)]at b;rw[h.1]at a;exact k.2.2 _ cs y a b
theorem Flat.one{w:World}{r:Ty}(hf:r.flat=true){css:List (List Value)}{rows:List r.D}(h:Flat w r css rows):∀v∈css.flatten,v.oneCell' =true:=by
 intro v hv;obtain⟨c,hc,hv⟩:=APu.1 hv;obtain⟨i,hi,rfl⟩:=AQD hc;have h1:=h.1;exact rk (pV (S:=fun _=>False) (d:=0) hf (h.2.2 i _ _ (ALk hi) (ALk (by omega)))) v hv
theorem Flat.at{w:World}{S:Nat->Prop}{d:Nat}{r:Ty}(hf:r.flat=true){css:List (List Value)}{rows:List r.D}(h:Flat w r css rows):F8 w S d r css rows (List.replicate rows.length []):=F8.flat hf h.1 h.2.1 h.2.2
theorem AMh{w:World}{S:Nat->Prop}{r:Ty}(hf:r.flat=true){css:List (List Value)}{rows:List r.D}{Fs:List ABu}{d:Nat}(h:F8 w S d r css rows Fs):Flat w r css rows:=by
 refine⟨h.1,h.2.2.1,fun i cs y a b=> ?_⟩;have hi:=(AL1.1 b).1;have h2:=h.2.1;exact ly hf (cP (h.2.2.2 i cs y (Fs[i]'(by omega)) a b (ALk _)))
theorem Flat.AAK{w:World}{r:Ty}{css:List (List Value)}{rows:List r.D}(h:Flat w r css rows)(n:Nat)(hn:n<=rows.length):css.flatten.take (n*r.n)=(css.take n).flatten:=by
 have h1:((css.take n).flatten).length=n*r.n:=by
  rw[Ih (n:=r.n) (fun c hc=>h.2.1 c (ATu hc)),ATk,h.1,Nat.min_eq_left hn]
 grind[List.take_append_drop,List.flatten_append,List.take_of_length_le]
theorem Flat.ze{w:World}{r:Ty}{css:List (List Value)}{rows:List r.D}(h:Flat w r css rows)(n:Nat)(hn:n<=rows.length):css.flatten.drop (n*r.n)=(css.drop n).flatten:=by
 have h1:((css.take n).flatten).length=n*r.n:=by
  rw[Ih (n:=r.n) (fun c hc=>h.2.1 c (ATu hc)),ATk,h.1,Nat.min_eq_left hn]
 grind[List.take_append_drop,List.flatten_append,List.drop_eq_nil_of_le]
theorem oe{w:World}{S:Nat->Prop}{d b o cap:Nat}{r:Ty}{rows:List r.D}{css:List (List Value)}{Fs:List ABu}{arr:Array Value}{ty:TypeId}{fr:AD3}(h:F8 w S d r css rows Fs)(hb:w.heap[b]? =some (.cells arr ty fr))
  (hc:Bj w b o css.flatten) (AEG:rows.length<=cap) (NN:o+cap*r.n<=arr.size) (hu:ADI fr (arr.size+mk r)):Ow w S (d+1) (.sl r) [.slice (some ⟨b,o,none⟩) rows.length cap] rows (b::Fs.flatten):=by
 simp only[Ow];refine⟨_,cap,rfl,AEG,.inr ⟨b,o,arr,ty,fr,Fs,rfl,hb,NN,hu,rfl,h.2.1,fun j q G hq hG=> ?_⟩⟩;have hj:=(AL1.1 hq).1;have h1:=h.1;have hjl:j<css.length:=by omega
 refine⟨css[j],h.2.2.1 _ (AM9 _),fun x u hx=> ?_,h.2.2.2 j _ _ _ (ALk hjl) hq hG⟩;have hxl:=(AL1.1 hx).1;rw[h.2.2.1 _ (AM9 _)]at hxl;have:=dJ (n:=r.n) (css:=css) (ex:=[]) (i:=j) h.2.2.1 (ALk hjl) hxl;rw[ANV,hx]at this;have:=hc _ _ this;grind
theorem sY{w:World}{b o:Nat}{A V B:List Value}{arr:Array Value}{ty:TypeId}{fr:AD3}(hb:w.heap[b]? =some (.cells arr ty fr))(hs:o+(A.length+V.length)+B.length<=arr.size)(hA:Bj w b o A):
  ∃Lq,((w.setCells b (o+(A.length+V.length)) B).setCells b (o+A.length) V).heap[b]? =some (.cells Lq ty fr)/\Lq.size=arr.size/\Bj ((w.setCells b (o+(A.length+V.length)) B).setCells b (o+A.length) V) b o (A++V++B):=by
 have h1:=GO B (o+(A.length+V.length)) w b arr ty fr hb;have z1:(Fz arr (o+(A.length+V.length)) B).size=arr.size:=GU ..;have h2:=GO V (o+A.length) _ b _ ty fr h1;grind[QG,GU,Bj.append,Xe,List.length_append]
theorem oO{w:World}{b o:Nat}{A V B:List Value}{arr:Array Value}{ty:TypeId}{fr:AD3}(hb:w.heap[b]? =some (.cells arr ty fr))(hs:o+(A.length+V.length)+B.length<=arr.size)(hA:Bj w b o A):
  ∃Lq,((w.setCells b (o+A.length) V).setCells b (o+(A.length+V.length)) B).heap[b]? =some (.cells Lq ty fr)/\Lq.size=arr.size/\Bj ((w.setCells b (o+A.length) V).setCells b (o+(A.length+V.length)) B) b o (A++V++B):=by
 have h1:=GO V (o+A.length) w b arr ty fr hb;have z1:(Fz arr (o+A.length) V).size=arr.size:=GU ..;have h2:=GO B (o+(A.length+V.length)) _ b _ ty fr h1;grind[QG,GU,Bj.append,Xe,List.length_append]
@[reducible] def zd (r:Ty):BK:=⟨[(0,.c (.ref 0)),(1,.c (.v (.int .i64))),(2,.c (.sl false r))],[.sl 1 r]⟩
@[reducible] def AE7 (r:Ty):BK:=⟨[(0,.c (.ref 1))],[.gone,.sl 1 r]⟩
theorem AGc{P:Program}{f:Nat}{args:Array Value}{E:Env}{w:World}{r:Ty}{d:Nat}(hd:1<=d){F:ABu}(hS:Sep E w F){l:List r.D}{Q:Ending->World->Prop}
  (h:Calls P f args w Q) (hq:∀e w',Q e w'-> ∃v F',e= .returned v/\isSlice v=true/\Ow w' E.S d (.sl r) [v] l F'/\F'.Nodup/\(∀c∈F',¬E.T c/\c<w'.heap.size)/\(∀c,E.T c->w'.heap[c]? =w.heap[c]?)/\Grown w w'):
  Calls P f args w fun e w' => ∃x E',e= .returned x/\j6 E w E' w'/\DG E' w' [.dead,.sl d r l] [.dead,.sl d r l] []/\
   Np E' w' [.dead,.sl d r l] id [(0,.c (.ref 1))] ((),()) [x]/\ ∀i,i<1->alive [.gone,.sl d r] i=true->E'.Iz i=E.Iz i/\E'.I0 i=E.I0 i:=by
 refine h.mono fun e w' hh=> ?_
 obtain⟨v,F',rfl,hv,ho,nd,hfr,hT,hg⟩:=hq e w' hh
 let E':Env:={ E with I0:=fun n=>if n=1 then v else E.I0 n }
 refine⟨v,E',rfl,⟨fun _ h=>h,fun _ h=>h,fun _ h=> .inl h,fun _ h=> .inl h,hT,hg.os,hg.tape,hg.output,hg.size⟩,⟨[[],F'],⟨rfl,fun k B F hB hF=> ?_⟩,?_⟩,?_,fun i hi ha=> ?_⟩
 ·match k with
  |0=>
   simp at hB hF;subst hB hF;rfl
  |1=>
   simp at hB hF;subst hB hF;exact⟨hd,ho⟩
  |k+2=>simp at hB
 ·refine⟨by simpa using nd,fun c hc=>(hfr c (by simpa using hc)).1,fun c hc=>(hfr c (by simpa using hc)).2,hS.st,fun c hc=>AQM (hS.ie c hc) hg.size,hS.gok.mono (fun _ h=>h) hT⟩
 ·refine⟨⟨v,rfl,?_⟩,trivial⟩
  refine⟨hv,?_⟩
  show DQ r l []/\(∃q,Hp r l []=some q)/\J1 w' (E'.I0 1) []=some v
  refine⟨trivial,⟨_,rfl⟩,?_⟩;rw[DC];simp[E']
 ·have:i=0:=by omega
  subst this;simp[alive]at ha
end Go.Fw
end
section
namespace Go.Fw
open Go.M Go.Proofs Go.Shelf Go.RowKit Go.Lib
theorem ACO{w:World}{b:Nat}{arr:Array Value}{ty:TypeId}{fr:AD3}(h:w.heap[b]? =some (.cells arr ty fr)):w.shape? b=some (ty,arr.size):=by
 simp[World.shape?,h]
theorem AIv{w:World}{b o:Nat}{v:Value}(h:w.cell? ⟨b,o,none⟩=some v):∃arr ty fr,w.heap[b]? =some (.cells arr ty fr)/\o<arr.size:=by
 unfold World.cell? at h;grind
theorem Grown.trans'{w w' w'':World}(h:Grown w w')(k:Grown w' w''):Grown w w'':=⟨k.os.trans h.os,k.tape.trans h.tape,k.output.trans h.output,APf h.size k.size⟩
theorem AA2{P:Program}{T:Ky}{ρ:Ren}{nm:String}{fv:Func}(hT:E_ P T)(L:kQ P ρ nm fv){r:Ty}(Xj:T.PL (ρ.t 24) r=true)(hf:r.flat=true)(ef:mk r=1)(hn0:0<r.n):
  Nj P (ρ.f 22) ⟨zd r,AE7 r,fun v=>(AB1 v.1.2.1 v.1.2.2.1 v.2.1).map fun l=>(((),()),((),l,()))⟩:=by
 refine⟨by simp[Rt.ok,kinds,rU,AP.Mq,XP.Mq,BP.Mq],cI L.f22 L.n22 (by kernel_rfl),?_⟩;intro E w v args u AUV hB hS hg;obtain⟨⟨u0,p,vs,u1⟩,rows,u2⟩:=v;obtain⟨⟨⟨⟩,⟨⟩⟩,⟨⟩,l,⟨⟩⟩:=u;simp only[ALs]at hg;obtain⟨l',qc,hg⟩:=hg;simp only[APJ,true_and,AQs]at hg;subst hg;unfold AB1 at qc;split at qc
 case isFalse=>cases qc
 rename_i hc;obtain⟨hp0,hp1,aN⟩:=hc;obtain⟨p,rfl⟩:=ATi hp0;simp only[AMn,ALl]at qc;have hpn:p<=rows.length:=by omega
 obtain⟨⟨a0,h0,x0⟩,⟨a1,h1,x1⟩,⟨a2,h2,x2⟩,_⟩:=hS;have JO:args= #[a0,a1,a2]:=by
  have hl3:args.toList.length=3:=AUV;apply Array.ext'
  match hq:args.toList,hl3 with
  |[b0,b1,b2],_=>
   rw[hq]at h0 h1 h2;simp at h0 h1 h2;simp[h0,h1,h2]
 subst JO;have e0:E.I0 0=a0:=by
  have:VR E w [Bx.sl 1 r rows] (.ref 0 []) a0:=x0;simp only[VR]at this;obtain⟨_,_,_,h⟩:=this;rw[DC]at h;exact AUY h
 have e1:a1= .int .i64 (p:Int):=by
  have:VR E w [Bx.sl 1 r rows] (.v (.int .i64) (p:Int)) a1:=x1;simp only[VR,Rd,AOx,AQs]at this;exact this.2
 have e2:Rd w E.T (.sl r) [a2] vs:=by
  have:VR E w [Bx.sl 1 r rows] (.sl false r vs) a2:=x2;simp only[VR]at this;simpa using this
 subst e1;obtain⟨Fs,⟨hFl,hFb⟩,hSep⟩:=hB;obtain⟨F,rfl⟩:∃F,Fs=[F]:=by
  match Fs,hFl with
  |[F],_=>exact⟨F,rfl⟩
 have ALC:=hFb 0 (.sl 1 r rows) F rfl rfl;obtain⟨_,ho⟩:=ALC;rw[e0]at ho;simp only[ATP,ATj,ANV]at hSep;have ho0:=ho;obtain⟨ad,cap,css,Fs1,R1,rfl,hle,hd,hp1',hcase⟩:=vS ho;have hd':=AMh hf hd;obtain⟨e,ti,hut,Yj,hs1,hby,hrow⟩:=Lk hT Xj;obtain⟨i0,z,i1,i2,i3,i4,i5,sa⟩:=bB hT Yj hrow;have he:e=ρ.t 9:=by
  have:=L.t24.symm.trans hut;simp at this;exact this.symm
 subst he;rw[hs1]at i2;have z9:∀w,(Go.sizeOf (ρ.t 9)).run P w= .ok r.n w:=fun w=>by simp[sizeOf,typeInfo,i1,i2]
 have hzl:z.cells.size=r.n:=by rw[<-ATg,i5,He]
 have e2':=e2;simp only[Rd]at e2;obtain⟨va,vc,fq,hvle,hvr⟩:=e2;simp only[AOx,AQs]at fq;subst fq;have fin:∀{Q:Ending->World->Prop},Calls P (ρ.f 22) #[.slice ad rows.length cap,.int .i64 (p:Int),.slice va vs.length vc] w Q->
   (∀e w',Q e w'-> ∃v F',e= .returned v/\isSlice v=true/\Ow w' E.S 1 (.sl r) [v] l' F'/\F'.Nodup/\(∀c∈F',¬E.T c/\c<w'.heap.size)/\(∀c,E.T c->w'.heap[c]? =w.heap[c]?)/\Grown w w')->_:=fun h hq=>AGc (AOd 1) hSep h hq
 have s_:∀n:Nat,(List.replicate n ([]:ABu)).flatten=[]:=fun n=>by simp
 by_cases hm0:vs.length=0
 ·
  have AcD:vs=[]:=AO_ hm0;subst AcD;have hl:rows=l':=by rw[<-qc,ANV,List.take_append_drop]
  subst hl;refine fin (AJL (k:=r.n) L z9 ad rows.length cap p va vc w hpn hle) fun e w' h=> ?_
  obtain⟨rfl,rfl⟩:=h;exact⟨_,F,rfl,rfl,ho0,hSep.nodup,fun c hc=>⟨hSep.free c hc,hSep.lt c hc⟩,fun _ _=>rfl,⟨rfl,rfl,rfl,AOd _⟩⟩
 have hm:0<vs.length:=by omega
 rcases hvr with hvr|⟨vb,vo,rfl,hvT,hvr⟩
 ·exact absurd hvr hm0
 obtain⟨ess,c1,c2,c3,c4⟩:=vY hvr;have dp:Flat w r ess vs:=⟨c1,c2,fun i cs y a b=>ly hf (c4 i cs y a b)⟩;have AFW:ess.flatten.length=vs.length*r.n:=by rw[Ih c2,c1]
 have AFP:css.flatten.length=rows.length*r.n:=by rw[Ih hd.2.2.1,hd.1]
 have AVh:0<ess.flatten.length:=by rw[AFW];exact Nat.mul_pos hm hn0
 obtain⟨arrv,tyv,frv,hbv,hov⟩:=AIv (c3 0 _ (ALk AVh));have Aao:vb<w.heap.size:=by
  by_cases hh:vb<w.heap.size
  ·exact hh
  ·rw[Array.getElem?_eq_none (by omega)]at hbv;cases hbv
 have sZ:rY P w r.n vs.length (.slice (some ⟨vb,vo,none⟩) vs.length vc) ess.flatten:=TE c1 c2 (.inr ⟨vb,vo,rfl,c3⟩);have AVV:∀W:World,W.heap[vb]? =w.heap[vb]?->(Builtin.firstCells r.n vs.length (.slice (some ⟨vb,vo,none⟩) vs.length vc)).run P W= .ok ess.flatten.toArray W:=fun W hW=>by
  simp only[Builtin.firstCells];rw[<-AFW];exact Mr (c3.of_block hW)
 have AOw:=hd'.one hf;have AJ7:=dp.one hf;by_cases WG:rows.length+vs.length<=cap
 ·rcases hcase with⟨h0,_⟩|⟨b,o,arr,ty,fr,rfl,hb,NN,hu,rfl,vK⟩
  ·omega
  have hbT: ¬E.T b:=hSep.free b (by simp);have AJb:b<w.heap.size:=hSep.lt b (by simp);have jt:vb≠b:=fun e=>hbT (e▸hvT)
  have Ad8:(rows.length+vs.length)*r.n<=cap*r.n:=AOV _ WG;have hnm:(rows.length+vs.length)*r.n=rows.length*r.n+vs.length*r.n:=AS5 ..;by_cases hpe:p=rows.length
  ·subst hpe
   have hl:rows++vs=l':=by rw[<-qc,List.take_length,ATN,ANV]
   subst hl;have pf:=AJP (ρ:=ρ) L (i0:=i0) i1 b o rows.length cap ⟨vb,vo,none⟩ vs.length vc ess.flatten w hm WG (by rw[i2];exact X4 (k:=mk r) hb (by omega) hu) (by rw[i2];exact sZ) AJ7;refine fin pf fun e w' h=> ?_
   obtain⟨rfl,rfl⟩:=h;obtain⟨Lq,q1,q2,q3⟩:=sY (B:=[]) (V:=ess.flatten) hb (by simp only[APN];omega) vK;rw[AFP,<-i2]at q1 q3;simp only[World.setCells,ANV]at q1 q3;have hfl:=(hd'.append dp).to (w':=w.setCells b (o+rows.length*i0.size) ess.flatten) hf;refine⟨_,b::(List.replicate (rows++vs).length ([]:ABu)).flatten,rfl,rfl,?_,?_,?_,fun c hc=>Db _ _ _ _ _ (fun e=>hbT (e▸hc)),CO _ _ _ _⟩
   ·have:=oe (cap:=cap) (hfl.at (S:=E.S) (d:=0) hf) q1 (by rw[AS7];exact q3) (by rw[AOu];exact WG) (by rw[q2];exact NN) (by rw[q2];exact hu)
    rw[s_]at this|-;rw[AOu]at this;exact this
   ·simp
   ·intro c hc
    rw[s_]at hc;simp at hc;subst hc;exact⟨hbT,by rw[Dp];exact AJb⟩
  ·have JN:p<rows.length:=by omega
   have hpm:p*r.n<=rows.length*r.n:=AOV _ hpn;have ARX:(p+vs.length)*r.n=p*r.n+vs.length*r.n:=AS5 ..;have pf:=AHq (ρ:=ρ) L (i0:=i0) i1 (by rw[i2];exact hn0) b o rows.length cap p ⟨vb,vo,none⟩ vs.length vc css.flatten ess.flatten w JN hm WG aN jt (by rw[i2];exact AFP) (by rw[i2];exact AFW) vK
    (by rw[i2];exact X4 (k:=mk r) hb (by omega) hu) (by rw[i2];exact AVV) AOw AJ7 tyv ty arrv.size arr.size (ACO hbv) (ACO hb) (by omega) (by
     have:=hu arr.size (by omega);obtain⟨lo,hi⟩:=fr;simp only[World.frozen?,hb];simp at this|-;omega)
   refine fin pf fun e w' h=> ?_
   obtain⟨rfl,W,zo,hWg,rfl⟩:=h;have hA:(css.flatten.take (p*r.n)).length=p*r.n:=by rw[ATk];omega
   have hB:(css.flatten.drop (p*r.n)).length=rows.length*r.n-p*r.n:=by rw[AT7,AFP]
   have hbW:W.heap[b]? =some (.cells arr ty fr):=by rw[zo];exact hb
   have hcA:Bj W b o (css.flatten.take (p*r.n)):=Bj.heap (fun j v hj=>by
    rw[ATn]at hj;split at hj
    ·exact vK j v hj
    ·cases hj) zo
   obtain⟨Lq,q1,q2,q3⟩:=sY (B:=css.flatten.drop (p*r.n)) (V:=ess.flatten) hbW (by omega) hcA;rw[hA,AFW,<-ARX,<-i2]at q1 q3
   generalize tV:(W.setCells b (o+(p+vs.length)*i0.size) (css.flatten.drop (p*i0.size))).setCells b (o+p*i0.size) ess.flatten=w' at q1 q3
   have hfl:=(((hd'.take p).append dp).append (hd'.drop p)).to (w':=w') hf;rw[qc]at hfl;have hll:l'.length=rows.length+vs.length:=by rw[<-qc];simp;omega
   refine⟨_,b::(List.replicate l'.length ([]:ABu)).flatten,rfl,rfl,?_,?_,?_,fun c hc=> ?_,?_⟩
   ·have:=oe (cap:=cap) (hfl.at (S:=E.S) (d:=0) hf) q1 (by
     rw[AS7,AS7,<-hd'.AAK p hpn,<-hd'.ze p hpn,<-i2];exact q3) (by rw[hll];exact WG) (by rw[q2];exact NN) (by rw[q2];exact hu)
    rw[s_]at this|-;rw[hll]at this;exact this
   ·simp
   ·intro c hc
    rw[s_]at hc;simp at hc;subst hc;refine⟨hbT,?_⟩;rw[<-tV,Dp,Dp,zo];exact AJb
   ·have hcb:c≠b:=fun e=>hbT (e▸hc)
    rw[<-tV,Db _ _ _ _ _ hcb,Db _ _ _ _ _ hcb,zo]
   ·rw[<-tV]
    exact Grown.trans' hWg (Grown.trans' (CO _ _ _ _) (CO _ _ _ _))
 ·have hgc:=grownCap_ge w (rows.length+vs.length) cap (ρ.t 9)
  by_cases hpe:p=rows.length
  ·subst hpe
   have hl:rows++vs=l':=by rw[<-qc,List.take_length,ATN,ANV]
   subst hl;have hold:rows.length=0\/ ∃b o,ad=some ⟨b,o,none⟩/\Bj w b o css.flatten:=by
    rcases hcase with⟨h0,_⟩|⟨b,of,arr,ty0,fr,rfl,hb,NN,hunf,rfl,hc⟩
    ·exact .inl (by omega)
    ·exact .inr ⟨b,of,rfl,hc⟩
   have pf:=ALV (ρ:=ρ) L (i0:=i0) (z:=z) i1 i4 (by omega) ad rows.length cap ⟨vb,vo,none⟩ vs.length vc css.flatten ess.flatten w hm hle (by omega) aN (by rw[i2];exact mK hd.1 hd.2.2.1 hold) (by rw[i2];exact sZ);refine fin pf fun e w' h=> ?_
   obtain⟨rfl,rfl⟩:=h
   generalize grownCap w (rows.length+vs.length) cap (ρ.t 9)=gc at hgc|-
   generalize ji:css.flatten.toArray++ess.flatten.toArray++Builtin.zeroCells z.cells (gc-(rows.length+vs.length))=arr
   have hal:arr.toList=(css++ess).flatten++(Builtin.zeroCells z.cells (gc-(rows.length+vs.length))).toList:=by rw[<-ji];simp
   have AY0:arr.size=gc*r.n:=by
    rw[<-ji];simp only[AU1,AU6,fS,hzl,AFW,AFP,<-AS5];congr 1;omega
   have new:(w.drew.alloc (.cells arr (ρ.t 9))).heap[w.heap.size]? =some (.cells arr (ρ.t 9)):=by
    show(w.heap.push (.cells arr (ρ.t 9)))[w.heap.size]? =_
    simp
   have hfl:=(hd'.append dp).to (w':=w.drew.alloc (.cells arr (ρ.t 9))) hf;have hra:=hfl.at (S:=E.S) (d:=0) hf;refine⟨_,w.heap.size::(List.replicate (rows++vs).length ([]:ABu)).flatten,rfl,rfl,?_,?_,?_,fun c hc=>Jz (hSep.ie c hc),⟨rfl,rfl,rfl,by show _<=(w.heap.push _).size;simp⟩⟩
   ·have:=kN (cap:=gc) new hal hra.1 (by rw[AOu];exact hgc) (by omega) (a8 _) hra.2.1 hra.2.2.2
    rw[s_]at this|-;rw[AOu]at this;exact this
   ·simp
   ·intro c hc
    rw[s_]at hc;simp at hc;subst hc;exact⟨fun hT' =>Nat.lt_irrefl _ (hSep.ie _ hT'),by show _<(w.heap.push _).size;simp⟩
  ·have JN:p<rows.length:=by omega
   have hpm:p*r.n<=rows.length*r.n:=AOV _ hpn;have ARX:(p+vs.length)*r.n=p*r.n+vs.length*r.n:=AS5 ..;have hnm:(rows.length+vs.length)*r.n=rows.length*r.n+vs.length*r.n:=AS5 ..;rcases hcase with⟨h0,_⟩|⟨b,o,arr,ty,fr,rfl,hb,NN,hu,rfl,vK⟩
   ·omega
   have AJb:b<w.heap.size:=hSep.lt b (by simp);have pf:=AMM (ρ:=ρ) L (i0:=i0) (z:=z) i1 i4 (by rw[i2];exact hzl) (by rw[i2];exact hn0) (by omega) b o rows.length cap p ⟨vb,vo,none⟩ vs.length vc css.flatten ess.flatten w JN hm hle (by omega) aN (by rw[i2];exact AFP) (by rw[i2];exact AFW) AJb vK Aao (by rw[i2];exact AVV) AOw AJ7;refine fin pf fun e w' h=> ?_
   obtain⟨rfl,W,zo,hWo,hWt,hWu,rfl⟩:=h
   generalize grownCap w (rows.length+vs.length) cap (ρ.t 9)=gc at hgc zo|-
   have hA:(css.flatten.take (p*r.n)).length=p*r.n:=by rw[ATk];omega
   have hB:(css.flatten.drop (p*r.n)).length=rows.length*r.n-p*r.n:=by rw[AT7,AFP]
   rw[i2]at zo
   generalize AHL:(css.flatten.take (p*r.n)).toArray++Builtin.zeroCells z.cells (rows.length+vs.length-p)++Builtin.zeroCells z.cells (gc-(rows.length+vs.length))=ROW at zo
   have hRs:ROW.size=gc*r.n:=by
    rw[<-AHL];simp only[AU1,AU6,fS,hzl,hA,<-AS5];congr 1;omega
   have hgm:(rows.length+vs.length)*r.n<=gc*r.n:=AOV _ hgc;have hbW:W.heap[w.heap.size]? =some (.cells ROW (ρ.t 9)):=by rw[zo];simp
   have hcA:Bj W w.heap.size 0 (css.flatten.take (p*r.n)):=fun j v hj=>by
    have hjl:=(AL1.1 hj).1;rw[L1 hbW,AS9,<-Array.getElem?_toList,<-AHL];simp only[Array.toList_append,ANZ];rw[AOU hjl];exact hj
   obtain⟨Lq,q1,q2,q3⟩:=oO (B:=css.flatten.drop (p*r.n)) (V:=ess.flatten) hbW (by omega) hcA;rw[hA,AFW,<-ARX,<-i2,AS9,AS9]at q1 q3
   generalize tV:(W.setCells w.heap.size (p*i0.size) ess.flatten).setCells w.heap.size ((p+vs.length)*i0.size) (css.flatten.drop (p*i0.size))=w' at q1 q3
   have hfl:=(((hd'.take p).append dp).append (hd'.drop p)).to (w':=w') hf;rw[qc]at hfl;have hll:l'.length=rows.length+vs.length:=by rw[<-qc];simp;omega
   refine⟨_,w.heap.size::(List.replicate l'.length ([]:ABu)).flatten,rfl,rfl,?_,?_,?_,fun c hc=> ?_,?_⟩
   ·have:=oe (cap:=gc) (hfl.at (S:=E.S) (d:=0) hf) q1 (by
     rw[AS7,AS7,<-hd'.AAK p hpn,<-hd'.ze p hpn,<-i2];exact q3) (by rw[hll];exact hgc) (by rw[q2];omega) (a8 _)
    rw[s_]at this|-;rw[hll]at this;exact this
   ·simp
   ·intro c hc
    rw[s_]at hc;simp at hc;subst hc;refine⟨fun hT' =>Nat.lt_irrefl _ (hSep.ie _ hT'),?_⟩;rw[<-tV,Dp,Dp,zo];simp
   ·have dA:=hSep.ie c hc
    rw[<-tV,Db _ _ _ _ _ (by omega),Db _ _ _ _ _ (by omega),zo];exact Jz dA
   ·rw[<-tV]
    refine Grown.trans' (w':=W) ⟨hWo,hWt,hWu,by rw[zo];simp⟩ (Grown.trans' (CO _ _ _ _) (CO _ _ _ _))
end Go.Fw
end
section
namespace Go.Fw
open Go.M Go.Proofs Go.Shelf Go.RowKit Go.Lib
structure yF (P:Program) (ρ:Ren) (nm:String):Prop where
 mixed:P.follows .mixedOrders=true
 f24:P.funcs[ρ.f 24]? =some { Body2.n24 ρ with name:=nm }
 n24:(nm== "runtime.NumGoroutine")=false
 t0:P.underlying (ρ.t 0)=some (TypeDesc.tuple #[])
 a0:∀w,(isAgg (ρ.t 0)).run P w= .ok false w
 z0:∀w,(Go.sizeOf (ρ.t 0)).run P w= .ok 1 w
 v0:∀w,(zeroValue (ρ.t 0)).run P w= .ok (Value.tuple #[]) w
 t3:P.underlying (ρ.t 3)=some (TypeDesc.int IntKind.i64)
 a3:∀w,(isAgg (ρ.t 3)).run P w= .ok false w
 z3:∀w,(Go.sizeOf (ρ.t 3)).run P w= .ok 1 w
 v3:∀w,(zeroValue (ρ.t 3)).run P w= .ok (Value.int IntKind.i64 0) w
 t4:P.underlying (ρ.t 4)=some (TypeDesc.bool)
 a4:∀w,(isAgg (ρ.t 4)).run P w= .ok false w
 z4:∀w,(Go.sizeOf (ρ.t 4)).run P w= .ok 1 w
 v4:∀w,(zeroValue (ρ.t 4)).run P w= .ok (Value.bool false) w
 t24:P.underlying (ρ.t 24)=some (TypeDesc.slice (ρ.t 9))
 a24:∀w,(isAgg (ρ.t 24)).run P w= .ok false w
 z24:∀w,(Go.sizeOf (ρ.t 24)).run P w= .ok 1 w
 v24:∀w,(zeroValue (ρ.t 24)).run P w= .ok (Value.slice none 0 0) w
section
variable{P:Program} {ρ:Ren} {nm:String}
set_option maxHeartbeats 4000000 in
set_option maxRecDepth 1000000 in
theorem AJH(L:yF P ρ nm){k:Nat}(z9:∀w,(Go.sizeOf (ρ.t 9)).run P w= .ok k w)(ad:Option Addr)(n c i:Nat)(w:World)(hi:i<=n)(hnc:n<=c):
  Calls P (ρ.f 24) #[.slice ad n c,.int .i64 i,.int .i64 i] w fun e w' =>e= .returned (.slice ad n c)/\w' =w:=by
 have mixed:=L.mixed;have t0:=L.t0;have a0:=L.a0;have z0:=L.z0;have v0:=L.v0;have t3:=L.t3;have a3:=L.a3;have z3:=L.z3;have v3:=L.v3;have t4:=L.t4;have a4:=L.a4;have z4:=L.z4;have v4:=L.v4;have t24:=L.t24;have a24:=L.a24;have z24:=L.z24;have v24:=L.v24;have u0:=run_underlying L.t0;have u3:=run_underlying L.t3;have u4:=run_underlying L.t4;have Sc:=run_underlying L.t24
 go_enter L.f24,Body2.n24_ntmps ρ
 cases ad with
 |none=>
  go_wp2
  all_goals (go_ret;exact⟨rfl,rfl⟩)
 |some a=>
  obtain⟨ab,ao,asp⟩:=a
  go_wp2
  all_goals (go_ret;exact⟨rfl,rfl⟩)
theorem ACz{w:World}{t elem ty:TypeId}{i0:TypeInfo}{z:Value}{b o n cap:Nat}{Z:List Value}(hu:P.underlying t=some (.slice elem))(hi:P.info? elem=some i0)(hz:i0.zero=some z)(hn:0<n)(hZ:(Builtin.zeroCells z.cells n).toList=Z)
  (wG:w.there b o Z.length) (h1:∀v∈Z,v.oneCell' =true):(Builtin.clear_ #[t] ty #[.slice (some ⟨b,o,none⟩) n cap]).run P w= .ok (.tuple #[]) (w.setCells b o Z):=by
 have yS:=run_storeCells_cells (P:=P) b o Z 0 w (by simpa using fun j hj=>(wG j hj).1) (by simpa using fun j hj=>(wG j hj).2) h1;rw[ATL]at yS;obtain⟨n,rfl⟩:∃m,n=m+1:=⟨n-1,by omega⟩;simp[Builtin.clear_,run_underlying hu,zeroValue,typeInfo,hi,hz,hZ,yS]
set_option maxHeartbeats 4000000 in
set_option maxRecDepth 1000000 in
theorem AKl(L:yF P ρ nm){i0:TypeInfo}{z:Value}(hi0:P.info? (ρ.t 9)=some i0)(hz:i0.zero=some z)(b off n c i j:Nat)(cs Z:List Value)(w:World)(hij:i<j)(hj:j<=n)(hnc:n<=c)
  (dA:cs.length=n*i0.size) (hcs:Bj w b off cs) (wG:w.there b off (n*i0.size)) (h1c:∀v∈cs,v.oneCell' =true) (hZ:(Builtin.zeroCells z.cells (j-i)).toList=Z) (hZl:Z.length=(j-i)*i0.size) (h1z:∀v∈Z,v.oneCell' =true):
  Calls P (ρ.f 24) #[.slice (some ⟨b,off,none⟩) n c,.int .i64 i,.int .i64 j] w fun e w' =>
   e= .returned (.slice (some ⟨b,off,none⟩) (i+(n-j)) c)/\ ∃W:World,W.heap=w.heap/\Grown w W/\w' =(W.setCells b (off+i*i0.size) (cs.drop (j*i0.size))).setCells b (off+(i+(n-j))*i0.size) Z:=by
 have mixed:=L.mixed;have t0:=L.t0;have a0:=L.a0;have z0:=L.z0;have v0:=L.v0;have t3:=L.t3;have a3:=L.a3;have z3:=L.z3;have v3:=L.v3;have t4:=L.t4;have a4:=L.a4;have z4:=L.z4;have v4:=L.v4;have t24:=L.t24;have a24:=L.a24;have z24:=L.z24;have v24:=L.v24;have u0:=run_underlying L.t0;have u3:=run_underlying L.t3;have u4:=run_underlying L.t4;have Sc:=run_underlying L.t24;have z9:∀w,(Go.sizeOf (ρ.t 9)).run P w= .ok i0.size w:=fun w=>by simp[sizeOf,typeInfo,hi0]
 obtain⟨k,hk⟩:∃k,i0.size=k:=⟨_,rfl⟩;rw[hk]at dA wG hZl z9|-;have e1:(n-j)*k=n*k-j*k:=ATh ..;have e2:(j-i)*k=j*k-i*k:=ATh ..;have e3:j*k<=n*k:=AOV _ hj;have e4:i*k<=j*k:=AOV _ (by omega);have e5:(i+(n-j))*k=i*k+(n-j)*k:=AS5 ..;obtain⟨news,sZ⟩:∃news,news=cs.drop (j*k):=⟨_,rfl⟩;have hlen:news.length=(n-j)*k:=by rw[sZ,AT7,dA];omega
 rw[<-sZ];obtain⟨A,hA,APr⟩:∃A:Addr,(if c=j then(some ⟨b,off,none⟩:Option Addr)else some ⟨b,off+j*k,none⟩)=some A/\Hid (∀t u,news[t]? =some u->w.drew.cell? (A.add t)=some u):=by
  by_cases h:c=j
  ·refine⟨⟨b,off,none⟩,by simp[h],fun t u hu=> ?_⟩
   have h0:news.length=0:=by rw[hlen,show n-j=0 by omega,Nat.zero_mul]
   rw[AUM.1 h0]at hu;simp at hu
  ·refine⟨⟨b,off+j*k,none⟩,by simp[h],fun t u hu=> ?_⟩
   rw[sZ,ATm]at hu;rw[Addr.add_eq,ATK];exact hcs _ u hu
 have s1:Hid (news.length=(n-j)*k):=hlen;have s2:Hid (∀u∈news,u.oneCell' =true):=fun u hu=>h1c u (by rw[sZ]at hu;exact ATc hu)
 have s3:Hid (∀t,t<news.length->(w.drew.cell? ⟨b,off+i*k+t,none⟩).isSome=true/\w.drew.frozen? ⟨b,off+i*k+t,none⟩=false):=by
  intro t ht;rw[hlen]at ht;rw[ATK];exact wG _ (by omega)
 obtain⟨W1,hW1⟩:∃W1,W1=w.drew.setCells b (off+i*k) news:=⟨_,rfl⟩;have AfA:∀ty,(Builtin.clear_ #[ρ.t 24] ty #[.slice (some ⟨b,off+(i+(n-j))*k,none⟩) (n-(i+(n-j))) (c-(i+(n-j)))]).run P W1= .ok (.tuple #[]) (W1.setCells b (off+(i+(n-j))*k) Z):=fun ty=>by
  rw[show n-(i+(n-j))=j-i by omega];refine ACz L.t24 hi0 hz (by omega) hZ (fun t ht=> ?_) h1z;rw[hZl]at ht;have h0:=wG ((i+(n-j))*k+t) (by omega);rw[<-ATK]at h0;rw[hW1];refine⟨isSome_setCells b _ _ _ (fun q hq=> ?_) _ h0.1,by rw[World.frozen?_setCells];exact h0.2⟩;rw[hlen]at hq;have:=(wG (i*k+q) (by omega)).1;rw[<-ATK]at this;exact this
 have hW:Hid (W1=w.drew.setCells b (off+i*k) news):=hW1;have hic:i<=c:=by omega
 have hjc:j<=c:=by omega
 have hjn:(i:Int)<=(j:Int):=by omega
 have fin:∃W:World,W.heap=w.heap/\Grown w W/\W1.setCells b (off+(i+(n-j))*k) Z=(W.setCells b (off+i*k) news).setCells b (off+(i+(n-j))*k) Z:=⟨w.drew,rfl,⟨rfl,rfl,rfl,AOd _⟩,by rw[hW1]⟩;clear hW1 sZ hlen e1 e2 e3 e4 e5 wG hcs dA hZl
 go_enter L.f24,Body2.n24_ntmps ρ
 go_wp2_with fail
 go_region_law_o (refine step_append_room rfl (.tmp 22) (.tmp 25) (ρ.t 24) rfl (ρ.t 9) i0 k t24 hi0 hk b off i c (by simp[Act.eval,Act.put]) A (n-j) (c-j) news (by simp[Act.eval,Act.put]) s1.out APr.out s2.out (by omega) s3.out ?_;rw[<-hW.out])
 go_wp2
 go_ret
 exact⟨rfl,fin⟩
end
end Go.Fw
end
section
namespace Go.Fw
open Go.M Go.Proofs Go.Shelf Go.RowKit Go.Lib
theorem F8.take{w:World}{S:Nat->Prop}{d:Nat}{r:Ty}{css:List (List Value)}{rows:List r.D}{Fs:List ABu}(h:F8 w S d r css rows Fs)(n:Nat):F8 w S d r (css.take n) (rows.take n) (Fs.take n):=by
 refine⟨by simp[h.1],by simp[h.2.1],fun c hc=>h.2.2.1 c (ATu hc),fun i cs y G a b c=> ?_⟩;rw[ATn]at a b c;split at a
 ·rename_i hi
  rw[ALi hi]at b c;exact h.2.2.2 i cs y G a b c
 simp_all
theorem F8.drop{w:World}{S:Nat->Prop}{d:Nat}{r:Ty}{css:List (List Value)}{rows:List r.D}{Fs:List ABu}(h:F8 w S d r css rows Fs)(n:Nat):F8 w S d r (css.drop n) (rows.drop n) (Fs.drop n):=by
 refine⟨by simp[h.1],by simp[h.2.1],fun c hc=>h.2.2.1 c (ATc hc),fun i cs y G a b c=> ?_⟩;rw[ATm]at a b c;exact h.2.2.2 _ cs y G a b c
theorem AHO{r:Ty}{css:List (List Value)}(hl:∀c∈css,c.length=r.n)(n:Nat)(hn:n<=css.length):css.flatten.take (n*r.n)=(css.take n).flatten:=by
 have h1:((css.take n).flatten).length=n*r.n:=by
  grind[Ih,List.mem_of_mem_take,List.length_take,Nat.min_eq_left]
 grind[List.take_append_drop,List.flatten_append,List.take_of_length_le]
theorem AHN{r:Ty}{css:List (List Value)}(hl:∀c∈css,c.length=r.n)(n:Nat)(hn:n<=css.length):css.flatten.drop (n*r.n)=(css.drop n).flatten:=by
 have h1:((css.take n).flatten).length=n*r.n:=by
  grind[Ih,List.mem_of_mem_take,List.length_take,Nat.min_eq_left]
 grind[List.take_append_drop,List.flatten_append,List.drop_eq_nil_of_le]
theorem lA:∀{A B:List ABu},A.Sublist B->A.flatten.Sublist B.flatten
 |_,_,.slnil=> .slnil
 |_,_,.cons b h=>(lA h).trans (List.sublist_append_right _ _)
 |_,_,.cons_cons b h=>(List.Sublist.refl b).append (lA h)
theorem Zb{Fs:List ABu}{p q:Nat}(hpq:p<=q):((Fs.take p++Fs.drop q).flatten).Sublist Fs.flatten:=by
 grind[List.drop_drop,List.drop_sublist,List.take_append_drop,lA]
@[reducible] def AAU (d:Nat) (r:Ty):BK:=⟨[(0,.c (.ref 0)),(1,.c (.v (.int .i64))),(2,.c (.v (.int .i64)))],[.sl d r]⟩
@[reducible] def AEO (d:Nat) (r:Ty):BK:=⟨[(0,.c (.ref 1))],[.gone,.sl d r]⟩
theorem ABB{P:Program}{T:Ky}{ρ:Ren}{nm:String}(hT:E_ P T)(L:yF P ρ nm){r:Ty}(Xj:T.PL (ρ.t 24) r=true)(hn0:0<r.n)(m:Nat):
  Nj P (ρ.f 24) ⟨AAU (m+1) r,AEO (m+1) r,fun v=>(AJ_ v.1.2.1 v.1.2.2.1 v.2.1).map fun l=>(((),()),((),l,()))⟩:=by
 refine⟨by rfl,cI L.f24 L.n24 (by kernel_rfl),?_⟩;intro E w v args u AUV hB hS hg;obtain⟨⟨u0,p,q,u1⟩,rows,u2⟩:=v;obtain⟨⟨⟨⟩,⟨⟩⟩,⟨⟩,l,⟨⟩⟩:=u;simp only[ALs]at hg;obtain⟨l',qc,hg⟩:=hg;simp only[APJ,true_and,AQs]at hg;subst hg;unfold AJ_ at qc;split at qc
 case isFalse=>cases qc
 rename_i hc;obtain⟨hp0,hpq,hqn⟩:=hc;have hq0:(0:Int)<=q:=Int.le_trans hp0 hpq;obtain⟨p,rfl⟩:=ATi hp0;obtain⟨q,rfl⟩:=ATi hq0;simp only[AMn,ALl]at qc;have AQA:p<=q:=by omega
 have ARj:q<=rows.length:=by omega
 obtain⟨⟨a0,h0,x0⟩,⟨a1,h1,x1⟩,⟨a2,h2,x2⟩,_⟩:=hS;have JO:args= #[a0,a1,a2]:=by
  grind
 subst JO;have e0:E.I0 0=a0:=by
  have:VR E w [Bx.sl (m+1) r rows] (.ref 0 []) a0:=x0;grind[VR,DC,Option.some.inj]
 have e1:a1= .int .i64 (p:Int):=by
  have:VR E w [Bx.sl (m+1) r rows] (.v (.int .i64) (p:Int)) a1:=x1;simp only[VR,Rd,AOx,AQs]at this;simp_all
 have e2:a2= .int .i64 (q:Int):=by
  have:VR E w [Bx.sl (m+1) r rows] (.v (.int .i64) (q:Int)) a2:=x2;simp only[VR,Rd,AOx,AQs]at this;simp_all
 subst e1 e2;obtain⟨Fs,⟨hFl,hFb⟩,hSep⟩:=hB;obtain⟨F,rfl⟩:∃F,Fs=[F]:=by
  match Fs,hFl with
  |[F],_=>simp_all
 have ALC:=hFb 0 (.sl (m+1) r rows) F rfl rfl;obtain⟨_,ho⟩:=ALC;rw[e0]at ho;simp only[ATP,ATj,ANV]at hSep;have ho0:=ho;obtain⟨ad,cap,css,Fs1,R1,rfl,hle,hd,hp1',hcase⟩:=vS ho;obtain⟨e,ti,hut,Yj,hs1,hby,hrow⟩:=Lk hT Xj;obtain⟨i0,z,i1,i2,i3,i4,i5,sa⟩:=bB hT Yj hrow;have he:e=ρ.t 9:=by
  have:=L.t24.symm.trans hut;simp_all
 subst he;rw[hs1]at i2;have z9:∀w,(Go.sizeOf (ρ.t 9)).run P w= .ok r.n w:=fun w=>by simp[sizeOf,typeInfo,i1,i2]
 have hzl:z.cells.size=r.n:=by rw[<-ATg,i5,He]
 have fin:∀{Q:Ending->World->Prop},Calls P (ρ.f 24) #[.slice ad rows.length cap,.int .i64 (p:Int),.int .i64 (q:Int)] w Q->
   (∀e w',Q e w'-> ∃v F',e= .returned v/\isSlice v=true/\Ow w' E.S (m+1) (.sl r) [v] l' F'/\F'.Nodup/\(∀c∈F',¬E.T c/\c<w'.heap.size)/\(∀c,E.T c->w'.heap[c]? =w.heap[c]?)/\Grown w w')->_:=fun h hq=>AGc (by omega) hSep h hq
 by_cases hpe:p=q
 ·subst hpe
  have hl:rows=l':=by simp_all
  subst hl;refine fin (AJH (k:=r.n) L z9 ad rows.length cap p w ARj hle) fun e w' h=> ?_
  obtain⟨rfl,rfl⟩:=h;exact⟨_,F,rfl,rfl,ho0,hSep.nodup,fun c hc=>⟨hSep.free c hc,hSep.lt c hc⟩,fun _ _=>rfl,⟨rfl,rfl,rfl,AOd _⟩⟩
 have JN:p<q:=by omega
 rcases hcase with⟨h0,_⟩|⟨b,o,arr,ty,fr,rfl,hb,NN,hu,rfl,vK⟩
 ·omega
 have hbT: ¬E.T b:=hSep.free b (by simp);have AJb:b<w.heap.size:=hSep.lt b (by simp);have hnd:=ATq.1 hSep.nodup;have AFP:css.flatten.length=rows.length*r.n:=by rw[Ih hd.2.2.1,hd.1]
 have g1:(rows.length-q)*r.n=rows.length*r.n-q*r.n:=ATh ..;have g2:(q-p)*r.n=q*r.n-p*r.n:=ATh ..;have g3:q*r.n<=rows.length*r.n:=AOV _ ARj;have g4:p*r.n<=q*r.n:=AOV _ AQA;have g5:(p+(rows.length-q))*r.n=p*r.n+(rows.length-q)*r.n:=AS5 ..;have g6:rows.length*r.n<=cap*r.n:=AOV _ hle;have hzr:FO r≠[]:=fun h=>by simp_all
 have hZ:(Builtin.zeroCells z.cells (q-p)).toList=(List.replicate (q-p) (FO r)).flatten:=by
  grind[Builtin.zeroCells,ax,FO,He]
 have hZl:((List.replicate (q-p) (FO r)).flatten).length=(q-p)*r.n:=by rw[H5,He]
 have hZ1:∀v∈(List.replicate (q-p) (FO r)).flatten,v.oneCell' =true:=fun v hv=>by
  obtain⟨c,hc1,hc2⟩:=APu.1 hv;rw[ATG hc1]at hc2;exact rk (w:=w) (S:=E.S) (d:=0) (lY sa) v hc2
 have pf:=AKl (ρ:=ρ) L (i0:=i0) (z:=z) i1 i4 b o rows.length cap p q css.flatten _ w JN ARj hle (by simp_all) vK (by grind[X4,mk]) hd.one hZ (by simp_all) hZ1;refine fin pf fun e w' h=> ?_
 obtain⟨rfl,W,zo,hWg,rfl⟩:=h;rw[i2];have hA:(css.flatten.take (p*r.n)).length=p*r.n:=by grind
 have hB:(css.flatten.drop (q*r.n)).length=(rows.length-q)*r.n:=by simp_all
 have hbW:W.heap[b]? =some (.cells arr ty fr):=by simp_all
 have hcA:Bj W b o (css.flatten.take (p*r.n)):=Bj.heap (fun j v hj=>by
  rw[ATn]at hj;split at hj
  ·exact vK j v hj
  simp_all) zo
 obtain⟨Lq,q1,q2,q3⟩:=oO (B:=(List.replicate (q-p) (FO r)).flatten) (V:=css.flatten.drop (q*r.n)) hbW (by omega) hcA;rw[hA,hB,<-g5]at q1 q3
 generalize tV:(W.setCells b (o+p*r.n) (css.flatten.drop (q*r.n))).setCells b (o+(p+(rows.length-q))*r.n) ((List.replicate (q-p) (FO r)).flatten)=w' at q1 q3
 have js:∀c,c≠b->w'.heap[c]? =w.heap[c]?:=fun c hc=>by grind[Db]
 have hcT:∀c,E.T c->c≠b:=fun c hc e=>hbT (e▸hc)
 have hra:=((hd.take p).append (hd.drop q)).mono (w':=w') (S':=E.S) (fun _ h=>h) (fun c hc=>js c (hcT c (hSep.st c hc))) (fun c hc=>js c (fun e=>hnd.1 (e▸(Zb AQA).subset hc)));rw[qc]at hra;have hll:l'.length=p+(rows.length-q):=by grind
 refine⟨_,b::(Fs1.take p++Fs1.drop q).flatten,rfl,rfl,?_,?_,fun c hc=> ?_,fun c hc=>js c (hcT c hc),?_⟩
 ·have dA:css.length=rows.length:=hd.1
  have:=oe (cap:=cap) hra q1 (by
   rw[AS7,<-AHO hd.2.2.1 p (by omega),<-AHN hd.2.2.1 q (by omega)];intro j v hj;exact q3 j v (by grind)) (by omega) (by omega) (by simp_all)
  simp_all
 ·grind[List.nodup_cons,Zb]
 ·have AZo:w'.heap.size=w.heap.size:=by grind[Dp]
  rcases AO3.1 hc with rfl|hc
  ·simp_all
  ·have hm:c∈b::Fs1.flatten:=AWV _ ((Zb AQA).subset hc)
   exact⟨hSep.free c hm,by rw[AZo];exact hSep.lt c hm⟩
 grind[Grown.trans',CO]
end Go.Fw
end
section
namespace Go.Fw
open Go.M Go.Proofs Go.Shelf Go.RowKit Go.Lib
section
variable{P:Program} {ρ:Ren} {nm:String} {fv:Func}
theorem T4{t:TypeId}{n:Nat}(h:(P.info? t).map (·.size)=some n):∀w,(Go.sizeOf t).run P w= .ok n w:=fun w=>by
 obtain⟨i,hi,rfl⟩:=ALs.1 h;simp[sizeOf,typeInfo,hi]
theorem dK{t:TypeId}{z:Value}(h:(P.info? t).bind (·.zero)=some z):∀w,(zeroValue t).run P w= .ok z w:=fun w=>by
 obtain⟨i,hi,hz⟩:=AMp.1 h;simp[zeroValue,typeInfo,hi,hz]
structure sv (P:Program) (ρ:Ren):Prop where
 t0:P.underlying (ρ.t 0)=some (TypeDesc.tuple #[])
 t3:P.underlying (ρ.t 3)=some (TypeDesc.int IntKind.i64)
 t4:P.underlying (ρ.t 4)=some (TypeDesc.bool)
 t24:P.underlying (ρ.t 24)=some (TypeDesc.slice (ρ.t 9))
 s0:(P.info? (ρ.t 0)).map (·.size)=some 1
 s3:(P.info? (ρ.t 3)).map (·.size)=some 1
 s4:(P.info? (ρ.t 4)).map (·.size)=some 1
 s24:(P.info? (ρ.t 24)).map (·.size)=some 1
 v0:(P.info? (ρ.t 0)).bind (·.zero)=some (Value.tuple #[])
 v3:(P.info? (ρ.t 3)).bind (·.zero)=some (Value.int IntKind.i64 0)
 v4:(P.info? (ρ.t 4)).bind (·.zero)=some (Value.bool false)
 v24:(P.info? (ρ.t 24)).bind (·.zero)=some (Value.slice none 0 0)
theorem sv.ins(h:sv P ρ)(hm:P.follows .mixedOrders=true)(f22:P.funcs[ρ.f 22]? =some { Body2.n22 ρ with name:=nm })(n22:(nm== "runtime.NumGoroutine")=false)(f29:P.funcs[ρ.f 29]? =some fv)(n29:(fv.name== "runtime.NumGoroutine")=false)
  (b29:fv.body.isNone=true) (e29:Extern.findNext fv=none) (nL:Extern.find fv=some (Extern.SlicesOverlaps.overlaps #[(ρ.t 24),(ρ.t 24)] #[(ρ.t 4)])):kQ P ρ nm fv:=
 ⟨hm,f22,n22,f29,n29,b29,e29,nL,h.t0,run_isAgg_plain h.t0 rfl,T4 h.s0,dK h.v0,h.t3,run_isAgg_plain h.t3 rfl,T4 h.s3,dK h.v3,h.t4,run_isAgg_plain h.t4 rfl,T4 h.s4,dK h.v4,h.t24,run_isAgg_plain h.t24 rfl,T4 h.s24,dK h.v24⟩
theorem sv.del(h:sv P ρ)(hm:P.follows .mixedOrders=true)(f24:P.funcs[ρ.f 24]? =some { Body2.n24 ρ with name:=nm })(n24:(nm== "runtime.NumGoroutine")=false):yF P ρ nm:=
 ⟨hm,f24,n24,h.t0,run_isAgg_plain h.t0 rfl,T4 h.s0,dK h.v0,h.t3,run_isAgg_plain h.t3 rfl,T4 h.s3,dK h.v3,h.t4,run_isAgg_plain h.t4 rfl,T4 h.s4,dK h.v4,h.t24,run_isAgg_plain h.t24 rfl,T4 h.s24,dK h.v24⟩
@[reducible] def Kb (f22 f24 f29 f30 t24 t9:Nat):Ren:=⟨fun k=>if k=22 then f22 else if k=24 then f24 else if k=29 then f29 else if k=30 then f30 else k,fun k=>if k=24 then t24 else if k=9 then t9 else k,fun k=>k⟩
def ASG{T:Ky}(hT:E_ P T)(L:kQ P ρ nm fv){r:Ty}{f:Nat}(hf:ρ.f 22=f)(Xj:T.PL (ρ.t 24) r=true)(hr:(r.flat&&(decide (mk r=1)&&decide (0<r.n)))=true)(g:(zd r).Cu (Option (AE7 r).V))
  (hg:∀v:(zd r).V,(zd r).un g v=(AB1 v.1.2.1 v.1.2.2.1 v.2.1).map fun l=>(((),()),((),l,()))):SP P:=
 ⟨f,⟨zd r,AE7 r,(zd r).un g⟩,by
  simp only[AL8,AM7]at hr;rw[funext hg,<-hf];exact AA2 hT L Xj hr.1 hr.2.1 hr.2.2⟩
def Abe{T:Ky}(hT:E_ P T)(L:yF P ρ nm){r:Ty}{f:Nat}(m:Nat)(hf:ρ.f 24=f)(Xj:T.PL (ρ.t 24) r=true)(hr:decide (0<r.n)=true)(g:(AAU (m+1) r).Cu (Option (AEO (m+1) r).V))
  (hg:∀v:(AAU (m+1) r).V,(AAU (m+1) r).un g v=(AJ_ v.1.2.1 v.1.2.2.1 v.2.1).map fun l=>(((),()),((),l,()))):SP P:=
 ⟨f,⟨AAU (m+1) r,AEO (m+1) r,(AAU (m+1) r).un g⟩,by
  rw[funext hg,<-hf];exact ABB hT L Xj (of_decide_eq_true hr) m⟩
end
end Go.Fw
end
section
namespace Go.Fw
open Go
def AGP(n:Int):Option ABG:=if-9223372036854775808<=n/\n<=9223372036854775807 then some (Go.Lib.itoa n)else none
def lz(s p:ABG):Option Bool:=if s.length<4294967281 then some (Go.Lib.contains s p)else none
def s6(s p:ABG):Option ABG:=some (Go.Lib.trimPrefix s p)
def ALv(s p:ABG):Option (List UInt8×List UInt8×Bool):=if s.length<4294967281 then some (Go.Lib.cut s p)else none
def ABg(l:List ABG)(x:ABG):Option Int:=if l.length<=9223372036854775807 then some (Go.Lib.idxOfS (l.map fun y=>⟨y.toArray⟩) ⟨x.toArray⟩)else none
def FL(s:ABG)(most:Int):Option (Int×Bool):=
 if s.length<=1048576 then some (match Go.Lib.atoiAll s with
  | .ok v=>if 0<=v/\(s.length:Int)<=most/\Go.Lib.itoa v=s then(v,true)else(0,false)
  |_=>(0,false))else none
end Go.Fw
end
section
namespace Go.Fw
open Go.M Go.Proofs Go.Shelf Go.RowKit
theorem Ts{P:Program}{f:Nat}{ins outs:List (Nat×XP)}{g:BK.V ⟨ins,[]⟩->Option (BK.V ⟨outs,[]⟩)}
  (Du:Rt.ok ⟨⟨ins,[]⟩,⟨outs,[]⟩,g⟩=true) (hen:∀args w,(callFunc f args).run P w= .ok (.enter f args) w)
  (h:∀(E:Env) (w:World) (x:G5.V ins) (args:Array Value) (u:G5.V outs),args.size=ins.length->(∀w',Below w.heap.size w w'->GI w')->Np E w [] id ins x args.toList->g (x,())=some (u,())->
   Calls P f args w fun e w' => ∃v,e= .returned v/\Below w.heap.size w w'/\Np E w' [] id outs u [v]):
  Nj P f ⟨⟨ins,[]⟩,⟨outs,[]⟩,g⟩:=by
 refine⟨Du,hen,fun E w v args u NN hB hS hg=> ?_⟩;obtain⟨x,⟨⟩⟩:=v;obtain⟨u,⟨⟩⟩:=u;have hT:∀{w':World},Below w.heap.size w w'-> ∀c,E.T c->w'.heap[c]? =w.heap[c]?:=fun hb c hc=>hb.block c (hB.ie c hc)
 refine(h E w x args u NN (fun w' hb=>hB.gok w' (hT hb)) hS hg).mono fun e w' hR=> ?_
 obtain⟨v,rfl,hb,hs⟩:=hR;exact⟨v,E,rfl,⟨fun _ h=>h,fun _ h=>h,fun _ h=> .inl h,fun _ h=> .inl h,hT hb,hb.os,hb.tape,hb.output,hb.size⟩,
  ⟨[],⟨rfl,fun k B F h=>by simp[KJ.mk]at h⟩,by simp,by simp,by simp,hB.st,fun c hc=>AQM (hB.ie c hc) hb.size,hB.gok.mono (fun _ h=>h) (hT hb)⟩,hs,fun i hi=>by simp at hi⟩
theorem wA{w:World}(k:Nat)(os:Array Obj):Below w.heap.size w (Go.Sort.grow (w.drewN k) os):=
 ⟨rfl,rfl,rfl,by simp[Go.Sort.grow,World.drewN],fun c hc=>by
  show(w.heap++os)[c]? =_
  rw[Array.getElem?_append_left hc]⟩
theorem AV1{args:Array Value}{a:Value}(hl:args.size=1)(h:args.toList[0]? =some a):args= #[a]:=by
 apply Array.ext'
 match hq:args.toList,(show args.toList.length=1 from hl)with
 |[b],_=>rw[hq]at h;simp at h;simp[h]
theorem ADE{args:Array Value}{a b:Value}(hl:args.size=2)(h:args.toList[0]? =some a)(h2:args.toList[1]? =some b):args= #[a,b]:=by
 apply Array.ext'
 match hq:args.toList,(show args.toList.length=2 from hl)with
 |[c,d],_=>rw[hq]at h h2;simp at h h2;simp[h,h2]
theorem AJ8{E:Env}{w:World}{vw:List Bx}{n:Int}{v:Value}(h:XR E w vw (.c (.v (.int .i64) n)) v):v= .int .i64 n:=by
 have:VR E w vw (.v (.int .i64) n) v:=h;simp only[VR,Rd,AOx,AQs]at this;exact this.2
theorem kY{E:Env}{w:World}{vw:List Bx}{n:ABG}{v:Value}(h:XR E w vw (.c (.v .str n)) v):v= .string ⟨n.toArray⟩:=by
 have:VR E w vw (.v .str n) v:=h;simp only[VR,Rd,AOx,AQs]at this;exact this.2
abbrev sI:XP:= .c (.v (.int .i64))
abbrev sS:XP:= .c (.v .str)
abbrev sB:XP:= .c (.v .bool)
theorem AEE{P:Program}{ρ:Ren}(L:LaysM.n171 P ρ)(hen:∀args w,(callFunc (ρ.f 171) args).run P w= .ok (.enter (ρ.f 171) args) w)(hgi:∀w,GI w->Go.Lib.TabIs P w "internal/strconv.uint64pow10" .u64 Go.Lib.pow10Tab):
  Nj P (ρ.f 171) ⟨⟨[(0,sI)],[]⟩,⟨[(0,sS)],[]⟩,fun v=>(AGP v.1.1).map fun l=>((l,()),())⟩:=by
 refine Ts rfl hen fun E w x args u NN hG hS hg=> ?_
 obtain⟨n,⟨⟩⟩:=x;obtain⟨⟨v0,h0,x0⟩,_⟩:=hS;obtain rfl:=AV1 NN h0;obtain rfl:=AJ8 x0;simp only[ALs]at hg;obtain⟨l,hl,hg⟩:=hg;unfold AGP at hl;split at hl
 case isFalse=>cases hl
 rename_i hc;cases hl;cases hg;refine(Any.strconv_Itoa L n hc.1 hc.2 w (hgi w (hG w (Below.refl _ _)))).mono fun e w' h=> ?_
 obtain⟨rfl,k,os,rfl⟩:=h;exact⟨_,rfl,wA k os,⟨_,rfl,rfl,rfl⟩,trivial⟩
theorem vi{P:Program}{ρ:Ren}(L:Lays.n144 P ρ)(hen:∀args w,(callFunc (ρ.f 144) args).run P w= .ok (.enter (ρ.f 144) args) w)(hgi:∀w:World,GI w-> ∃m,w.cell? ⟨ρ.g 1,0,none⟩=some (.int .i64 m)):
  Nj P (ρ.f 144) ⟨⟨[(0,sS),(1,sS)],[]⟩,⟨[(0,sB)],[]⟩,fun v=>(lz v.1.1 v.1.2.1).map fun l=>((l,()),())⟩:=by
 refine Ts rfl hen fun E w x args u NN hG hS hg=> ?_
 obtain⟨s,p,⟨⟩⟩:=x;obtain⟨⟨v0,h0,x0⟩,⟨v1,h1,x1⟩,_⟩:=hS;obtain rfl:=ADE NN h0 h1;obtain rfl:=kY x0;obtain rfl:=kY x1;simp only[ALs]at hg;obtain⟨l,hl,hg⟩:=hg;unfold lz at hl;split at hl
 case isFalse=>cases hl
 rename_i hc;cases hl;cases hg;obtain⟨m,hm⟩:=hgi w (hG w (Below.refl _ _));refine(Any.strings_Contains L ⟨s.toArray⟩ ⟨p.toArray⟩ m w (by simpa[ByteArray.size]using hc) hm).mono fun e w' h=> ?_
 obtain⟨rfl,rfl⟩:=h;exact⟨_,rfl,Below.refl _ _,⟨_,rfl,rfl,rfl⟩,trivial⟩
theorem qU{P:Program}{ρ:Ren}(L:Lays.n101 P ρ)(hen:∀args w,(callFunc (ρ.f 101) args).run P w= .ok (.enter (ρ.f 101) args) w):
  Nj P (ρ.f 101) ⟨⟨[(0,sS),(1,sS)],[]⟩,⟨[(0,sS)],[]⟩,fun v=>(s6 v.1.1 v.1.2.1).map fun l=>((l,()),())⟩:=by
 refine Ts rfl hen fun E w x args u NN hG hS hg=> ?_
 obtain⟨s,p,⟨⟩⟩:=x;obtain⟨⟨v0,h0,x0⟩,⟨v1,h1,x1⟩,_⟩:=hS;obtain rfl:=ADE NN h0 h1;obtain rfl:=kY x0;obtain rfl:=kY x1;cases hg;refine(Any.strings_TrimPrefix L ⟨s.toArray⟩ ⟨p.toArray⟩ w).mono fun e w' h=> ?_
 obtain⟨rfl,rfl⟩:=h;exact⟨_,rfl,Below.refl _ _,⟨_,rfl,rfl,rfl⟩,trivial⟩
theorem AHc{P:Program}{ρ:Ren}(L:Lays.n145 P ρ)(hen:∀args w,(callFunc (ρ.f 145) args).run P w= .ok (.enter (ρ.f 145) args) w)(hgi:∀w:World,GI w-> ∃m,w.cell? ⟨ρ.g 1,0,none⟩=some (.int .i64 m)):
  Nj P (ρ.f 145) ⟨⟨[(0,sS),(1,sS)],[]⟩,⟨[(0,.NM [.inl (.v .str),.inl (.v .str),.inl (.v .bool)])],[]⟩,fun v=>(ALv v.1.1 v.1.2.1).map fun l=>(((l.1,l.2.1,l.2.2,()),()),())⟩:=by
 refine Ts rfl hen fun E w x args u NN hG hS hg=> ?_
 obtain⟨s,p,⟨⟩⟩:=x;obtain⟨⟨v0,h0,x0⟩,⟨v1,h1,x1⟩,_⟩:=hS;obtain rfl:=ADE NN h0 h1;obtain rfl:=kY x0;obtain rfl:=kY x1;simp only[ALs]at hg;obtain⟨l,hl,hg⟩:=hg;unfold ALv at hl;split at hl
 case isFalse=>cases hl
 rename_i hc;cases hl;cases hg;obtain⟨m,hm⟩:=hgi w (hG w (Below.refl _ _));refine(Any.strings_Cut L ⟨s.toArray⟩ ⟨p.toArray⟩ m w (by simpa[ByteArray.size]using hc) hm).mono fun e w' h=> ?_
 obtain⟨rfl,n,rfl⟩:=h;exact⟨_,rfl,⟨rfl,rfl,rfl,AOd _,fun _ _=>rfl⟩,⟨_,rfl,_,rfl,⟨rfl,rfl⟩,⟨rfl,rfl⟩,⟨rfl,rfl⟩,trivial⟩,trivial⟩
theorem AC6{P:Program}{ρ:Ren}(L:Lays.n109 P ρ)(hen:∀args w,(callFunc (ρ.f 109) args).run P w= .ok (.enter (ρ.f 109) args) w):
  Nj P (ρ.f 109) ⟨⟨[(0,.c (.sl false .str)),(1,sS)],[]⟩,⟨[(0,sI)],[]⟩,fun v=>(ABg v.1.1 v.1.2.1).map fun l=>((l,()),())⟩:=by
 refine Ts rfl hen fun E w x args u NN hG hS hg=> ?_
 obtain⟨s,p,⟨⟩⟩:=x;obtain⟨⟨v0,h0,x0⟩,⟨v1,h1,x1⟩,_⟩:=hS;obtain rfl:=ADE NN h0 h1;obtain rfl:=kY x1;simp only[ALs]at hg;obtain⟨l,hl,hg⟩:=hg;unfold ABg at hl;split at hl
 case isFalse=>cases hl
 rename_i hc;cases hl;cases hg;have x0':VR E w [] (.sl false .str s) v0:=x0;simp only[VR,Rd]at x0';obtain⟨a,cap,e,hle,hr⟩:=x0';simp only[AOx,AQs]at e;subst e;by_cases hn:s.length=0
 ·obtain rfl:=AO_ hn
  refine(Any.slices_Index_string_empty L a cap ⟨p.toArray⟩ w).mono fun e w' h=> ?_
  obtain⟨rfl,rfl⟩:=h;exact⟨_,rfl,Below.refl _ _,⟨_,rfl,rfl,rfl⟩,trivial⟩
 rcases hr with hr|⟨b,o,rfl,_,hr⟩
 ·exact absurd hr hn
 refine(Any.slices_Index_string L b o s.length cap (s.map fun y=>⟨y.toArray⟩) ⟨p.toArray⟩ w (by simp) hc (fun j hj=> ?_)).mono fun e w' h=> ?_
 ·simp only[ATS]at hj
  obtain⟨cs,dA,hce,hcr⟩:=hr j _ (ALk hj);subst hcr;have:=hce 0 _ rfl;simp[Ty.n]at this;simp[this,hj]
 ·obtain⟨rfl,rfl⟩:=h
  refine⟨_,rfl,Below.refl _ _,⟨_,rfl,rfl,?_⟩,trivial⟩;rw[AQL (by simp)];rfl
theorem rZ{P:Program}{f:Nat}(hen:∀args w,(callFunc f args).run P w= .ok (.enter f args) w)
  (hc:∀(s:ByteArray) (m:Int) (w:World),s.size<=1048576->(∀w',Below w.heap.size w w'->GI w')->
   Calls P f #[.string s,.int .i64 m] w fun e w' =>(∃a b,FL s.data.toList m=some (a,b)/\e= .returned (.tuple #[.int .i64 a,.bool b]))/\Below w.heap.size w w'):
  Nj P f ⟨⟨[(0,sS),(1,sI)],[]⟩,⟨[(0,.NM [.inl (.v (.int .i64)),.inl (.v .bool)])],[]⟩,fun v=>(FL v.1.1 v.1.2.1).map fun l=>(((l.1,l.2,()),()),())⟩:=by
 refine Ts rfl hen fun E w x args u NN hG hS hg=> ?_
 obtain⟨s,p,⟨⟩⟩:=x;obtain⟨⟨v0,h0,x0⟩,⟨v1,h1,x1⟩,_⟩:=hS;obtain rfl:=ADE NN h0 h1;obtain rfl:=kY x0;obtain rfl:=AJ8 x1;simp only[ALs]at hg;obtain⟨l,hl,hg⟩:=hg;have hs:s.length<=1048576:=by
  unfold FL at hl;split at hl
  ·assumption
  ·cases hl
 cases hg;refine(hc ⟨s.toArray⟩ p w (by simpa[ByteArray.size]using hs) hG).mono fun e w' h=> ?_
 obtain⟨⟨a,b,e1,rfl⟩,hb⟩:=h;have e2:FL s p=some (a,b):=by simpa using e1
 obtain rfl:=AUY (hl.symm.trans e2);exact⟨_,rfl,hb,⟨_,rfl,_,rfl,⟨rfl,rfl⟩,⟨rfl,rfl⟩,trivial⟩,trivial⟩
def txP{P:Program}{f f':Nat}{i o:BK}{F:i.V->Option o.V}(h:Nj P f' ⟨i,o,F⟩)(hf:f' =f)(g:i.Cu (Option o.V))(hg:∀v:i.V,i.un g v=F v):SP P:=
 ⟨f,⟨i,o,i.un g⟩,by rw[funext hg,<-hf];exact h⟩
end Go.Fw
end
section
namespace Go.Fw
open Go Go.RowKit
theorem ye{H:Type}{enc:TypeId×Value->H}{a:Assume}{C:Checked}{os:Os}{f:FuncId}{fn:Func}{s:ChangeSpec}{conds:List PathCond}{apart fresh handsOn again:Bool}{X:World->Array Value->Prop}
  (hX:∀(w w':World) (args:Array Value),w.heap=w'.heap->X w args->X w' args)
  (own:ownKnob C.prog.godebug=none) (started:os.Started) (APx:C.prog.inits.idxOf? f=none) (hfn:C.prog.funcs[f]? =some fn)
  (witness:∃(w:World) (tape:Tape) (i:Input),w.os=os/\(w.forCall tape i).Shaped C.prog/\i.vars=[]/\Input.okWide C.prog (w.forCall tape i) .any w.heap.size f i/\
   ((s.pre enc C.prog fn conds apart (w.forCall tape i).memory i.args/\X (w.forCall tape i).memory i.args)/\sizedMet enc C.prog fn (OpenSpec.ofChange s) apart (w.forCall tape i).memory i.args)/\a.holds C.prog (lone (Frame.enter C.prog f i.args .normal) [] (w.forCall tape i)))
  (AJx:∀(W:World) (base:Nat) (args:Array Value) (ds gs:List (DataW H)) (before:List MemPlace),
   (∀(j:Nat) t v,fn.params[j]? =some t->args[j]? =some v->Value.okWide C.prog W .any base t v)->
   DataW.Whole enc C.prog fn.params.toList s.vars apart W args.toList ds gs before->X W args->W.ShapedOpen C.prog->
   Calls C.prog f args W fun e W' => ∃v,e= .returned v/\s.post enc C.prog fn apart fresh handsOn again W args v W'):
  ReturnsInHanded a C os f .any (fun w args=>(s.pre enc C.prog fn conds apart w args/\X w args)/\sizedMet enc C.prog fn (OpenSpec.ofChange s) apart w args) (s.post enc C.prog fn apart fresh handsOn again):=by
 refine returnsInHanded_of_calls own started APx witness ?_
 intro w tape i _ hsh _ Du AY8 _;obtain⟨_,_,_,fn',hfn',_,_,_,_,ALt⟩:=Du;have e:fn' =fn:=AUY (hfn'.symm.trans hfn);subst e;obtain⟨⟨⟨ds,gs,before,hw,hc⟩,hx⟩,hz⟩:=AY8;have tV:=DataW.Whole.of_heap (w':=w.forCall tape i) (by rfl) hw;refine(AJx (w.forCall tape i) w.heap.size i.args ds gs before ALt tV (hX _ _ _ (by rfl) hx) hsh).mono fun e W' ⟨v,he,hp⟩=> ?_
 subst he;exact ChangeSpec.post_blind hp
theorem xE{P:Program}{n nm:String}{d:DataW Unit}{r:List (String×DataW Unit)}{W:World}{g:Nat}{ti:TypeId}{ms:Array (String×TypeId)}
  (h:laidMet P ((n,.iface nm d)::r) W) (hg:P.globalNamed n=some g) (ht:(P.globals[g]?).map (·.type)=some ti) (hi:P.underlying ti=some (.interface ms)):j9 W g:=by
 obtain⟨ps,⟨g0,t0,cs0,f0,p0,q0,hg0,ht0,hv0,hd0,_,e0⟩,_,fz⟩:=h;obtain rfl:=AUY (hg.symm.trans hg0);obtain rfl:=AUY (ht.symm.trans ht0);obtain⟨f1,u,v,e,_⟩:=Go.iface_of_trod hi hd0;refine⟨.iface u v,?_,.inr ⟨u,v,rfl⟩⟩;have:=World.var?_cell hg0 hv0 0
 have e':cs0= #[.iface u v]:=by
  obtain⟨l⟩:=cs0;simp only at e;rw[e]
 rw[e']at this;simpa using this
end Go.Fw
end
