/- The framework, part 2: a checked interpreter of the model's code over abstract states; no claim is made here. -/
import Derived.Test.YtbjkhapllnkhfaaGreatDoorF0
import Derived.Below
import Derived.ChangeArms
import Derived.ChangeOld
import Derived.DataReads
import Derived.Handed
import Derived.LaidLaws
import Derived.Lib.AtoiAll
import Derived.Lib.IndexMore
import Derived.Lib.ItoaNum
import Derived.Lib.SlicesS
import Derived.Lib.Split
import Derived.Lib.Strings
import Derived.MakeChecks
import Derived.OrdersHeld
import Derived.Shelf.Slices.Delete
import Derived.Shelf.Slices.Turned
import Derived.Shelf.Spec.SlicesInsertGrow
import Derived.Shelf.Strconv.Itoa3
import Derived.Shelf.Strings.Cut
import Derived.Shelf.Strings.Prefix
import Derived.Shelf.Strings.Search3
import Derived.Shelf.Strings.Split
import Derived.Stop.LaidErr
import Derived.Tactics
set_option linter.unusedVariables false
set_option linter.unusedSimpArgs false
set_option linter.unusedSectionVars false
section
namespace Go.Fw
def alive(l:List BP)(i:Nat):Bool:=
 match l[i]? with
 |some .gone=>false
 |some _=>true
 |none=>false
def AP.LK(l:List BP):AP->Bool
 | .sl s _=>s
 | .pT _=>false
 | .mH _ _=>false
 | .ta _ _=>false
 | .ref i=>decide (i<l.length)
 | .ptr i _=>alive l i
 | .fn _ Ka=>Ka.all (alive l)
 |_=>true
def XP.LK(l:List BP):XP->Bool
 | .c p=>p.LK l
 | .agg q=>q.all (AP.LK l)
 | .MA q=>q.all fun| .inl p=>p.LK l| .inr q=>q.all (AP.LK l)
 | .row _=>false
def BP.LK(l:List BP):BP->Bool
 | .mem q=>q.all (AP.LK l)
 |_=>true
def kinds:List BP->List BP->Bool
 |[],_=>true
 | .mem _::l,.mem _::m=>kinds l m
 | .sl _ r::l,.sl _ q::m=>decide (r=q)&&kinds l m
 | .mem _::l,.gone::m=>kinds l m
 | .sl _ _::l,.gone::m=>kinds l m
 |_,_=>false
def mo(l:List BP):List (Nat×XP)->Bool
 |[(0,p)]=>p.LK l
 |_=>false
def Qv.ok(c:Qv):Bool:=
 kinds c.ins.GG c.outs.GG&&mo c.outs.GG c.outs.Dw&&c.outs.GG.all (BP.LK c.outs.GG)
theorem Xz:∀{l m:List BP},kinds l m=true->l.length<=m.length/\ ∀(i:Nat) p,l[i]? =some p->p≠ .gone/\ ∀d r,m[i]? =some (.sl d r)-> ∃d',p= .sl d' r
 |[],m,_=>⟨by simp,fun i p h=>by simp at h⟩
 | .gone::l,[],h=>by simp[kinds]at h
 | .gone::l,_::_,h=>by simp[kinds]at h
 | .mem _::l,[],h=>by simp[kinds]at h
 | .sl _ _::l,[],h=>by simp[kinds]at h
 | .mem q::l,.mem _::m,h=>by
  obtain⟨h1,h2⟩:=Xz (l:=l) (m:=m) (by simpa[kinds]using h);grind
 | .mem q::l,.gone::m,h=>by
  obtain⟨h1,h2⟩:=Xz (l:=l) (m:=m) (by simpa[kinds]using h);grind
 | .mem q::l,.sl _ _::m,h=>by simp[kinds]at h
 | .sl d0 r0::l,.sl _ q::m,h=>by
  simp only[kinds,AJR,AJr]at h;obtain⟨h1,h2⟩:=Xz (l:=l) (m:=m) h.2;grind
 | .sl d0 r0::l,.gone::m,h=>by
  obtain⟨h1,h2⟩:=Xz (l:=l) (m:=m) (by simpa[kinds]using h);grind
 | .sl _ _::l,.mem _::m,h=>by simp[kinds]at h
def L4(P:Program)(f:Nat)(c:Qv):Prop:=
 c.ok=true/\(∀args w,(callFunc f args).run P w= .ok (.enter f args) w)/\
 ∀(E:Env) (w:World) (v:c.ins.V) (args:Array Value) (u:c.outs.V),args.size=c.ins.Dw.length->
  C0 E w (I8.mk id c.ins.GG v.2) (I8.mk id c.ins.GG v.2) []->Mm E w (I8.mk id c.ins.GG v.2) id c.ins.Dw v.1 args.toList->c.g v=some u->
  Calls P f args w fun e w' => ∃x E',e= .returned x/\fb E w E' w'/\C0 E' w' (I8.mk id c.outs.GG u.2) (I8.mk id c.outs.GG u.2) []/\
   Mm E' w' (I8.mk id c.outs.GG u.2) id c.outs.Dw u.1 [x]/\ ∀i,i<c.ins.GG.length->alive c.outs.GG i=true->E'.Hg i=E.Hg i/\E'.Hi i=E.Hi i
theorem kC:∀x:AV,GZ [] x=x
 | .ref b (s::p)=>by rfl
 | .ref b []=>rfl
 | .win b (s::p) i n=>by rfl
 | .win b [] i n=>rfl
 | .Js b (s::p) i sz j=>by rfl
 | .Js b [] i sz j=>rfl
 | .v _ _=>rfl
 | .sl _ _ _=>rfl
 | .nil=>rfl
 | .IX _ _=>rfl
 | .Pv _ _ _ _=>rfl
 | .fn _ _=>rfl
 | .ta _ _=>rfl
 | .ABv=>rfl
 | .undef=>rfl
theorem al:GZ []=id:=funext kC
theorem wL:∀x:XV,Vn [] x=x
 | .c x=>by simp[Vn,kC]
 | .agg l=>by simp[Vn,al]
 | .MA l=>by
  simp only[Vn,al];congr 1
  conv=>rhs;rw[<-ATo l]
  apply AO9;intro x _;cases x with
  |inl x=>simp
  |inr q=>simp
theorem vm(m:P5)(σ:St):(σ.aq m).tm=σ.tm.map (Vn m):=by
 cases m with
 |nil=>
  simp only[St.aq];have:Vn []=id:=funext wL;simp_all
 |cons _ _=>rfl
theorem ADA(m:P5)(σ:St):(σ.aq m).bx=σ.bx.map (Bx.map (GZ m)):=by
 cases m with
 |nil=>grind[St.aq,al,bX]
 |cons _ _=>
  rfl
theorem fh(f:AV->AV):∀(m:P5) (bx:List Bx),Cx (bx.map (Bx.map f)) m=(Cx bx m).map (Bx.map f)
 |[],_=>rfl
 |none::m,bx=>by simp only[Cx];exact fh f m bx
 |some b::m,bx=>by
  simp only[Cx];rw[<-fh f m (bx.set b .dead),List.map_set];rfl
theorem Ri:∀{m:P5} {bx:List Bx} {b:Nat},some b∉m->(Cx bx m)[b]? =bx[b]?
 |[],_,_,_=>rfl
 |none::m,bx,b,h=>by simp only[Cx];exact Ri (by simp_all)
 |some c::m,bx,b,h=>by
  simp only[Cx];rw[Ri (by simp_all),ALE (by grind)]
theorem ADo{E E':Env}{w w':World}{vw vw':List Bx}{m:P5}(k:Tk E w vw E' w' (Cx vw' m))
  (hb:∀b d' r rows',some b∈m->vw'[b]? =some (.sl d' r rows')-> ∃d rows,vw[b]? =some (.sl d r rows)/\List.length rows' =List.length rows/\E'.Hi b=E.Hi b) (hlen:vw.length<=vw'.length) {x:AV} {v:Value} (h:VR E w vw x v):VR E' w' vw' (GZ m x) v:=by
 have h1:=GB k h;have eZ:∀{b'},some b'∉m->(Cx vw' m)[b']? =vw'[b']?:=fun e=>Ri e
 have get:∀{b'},b'<vw.length-> ∃B,vw'[b']? =some B:=fun hl=>⟨_,AJA (by omega)⟩
 cases x with
 |v t x=>exact h1
 |sl s r x=>exact h1
 |nil=>exact h1
 |IX c j=>exact⟨by simpa[HZ]using h1.1,h1.2⟩
 |Pv s r x j=>exact h1
 |fn f Ka=>exact⟨fun c hc=>by simpa[HZ]using h1.1 c hc,h1.2⟩
 |ta f rows=>exact h1
 |ABv=>exact h1
 |undef=>trivial
 |ref c p=>
  have other:some c∉m->VR E' w' vw' (.ref c p) v:=fun e=>by
   grind[VR]
  cases p with
  |nil=>
   simp only[GZ];by_cases e:some c∈m
   ·simp only[VR]at h|-
    obtain⟨h0,h⟩:=h;refine⟨h0,?_⟩;cases hc:vw[c]? with
    |none=>simp_all
    |some B=>
     obtain⟨B',Ti⟩:=get (AJM.1 hc).1;rw[Ti];cases B' with
     |mem cs=>trivial
     |dead=>trivial
     |sl d' r rows' =>
      obtain⟨d,rows,e1,e2,e3⟩:=hb c d' r rows' e Ti;rw[e1]at h;refine⟨by simp[DC],⟨_,rfl⟩,?_⟩;grind[Cv]
   simp_all
  |cons s p=>
   simp only[GZ];split
   ·trivial
   simp_all
 |win c p off n=>
  have other:some c∉m->VR E' w' vw' (.win c p off n) v:=fun e=>by
   grind[VR]
  cases p with
  |nil=>
   simp only[GZ];by_cases e:some c∈m
   ·simp only[VR]at h|-
    obtain⟨h0,h⟩:=h;refine⟨h0,?_⟩;cases hc:vw[c]? with
    |none=>simp_all
    |some B=>
     obtain⟨B',Ti⟩:=get (AJM.1 hc).1;rw[Ti];cases B' with
     |mem cs=>trivial
     |dead=>trivial
     |sl d' r rows' =>
      obtain⟨d,rows,e1,e2,e3⟩:=hb c d' r rows' e Ti;rw[e1]at h;obtain⟨_,q,ys,a,len,cap,g1,g2,g3,g4⟩:=h;simp only[Gu,AJL,AK7]at g1;obtain⟨rfl,g1⟩:=g1;obtain rfl:=ANi g1;rw[Cv]at g3;exact⟨by simp[DC],r,rows',a,len,cap,rfl,by omega,by grind[Cv],g4⟩
   simp_all
  |cons s p=>
   simp only[GZ];split
   ·trivial
   simp_all
 |Js c p i sz j=>
  have other:some c∉m->VR E' w' vw' (.Js c p i sz j) v:=fun e=>by
   grind[VR]
  cases p with
  |nil=>
   simp only[GZ];by_cases e:some c∈m
   ·simp only[VR]at h|-
    obtain⟨h0,h⟩:=h;refine⟨h0,?_⟩;cases hc:vw[c]? with
    |none=>simp_all
    |some B=>
     obtain⟨B',Ti⟩:=get (AJM.1 hc).1;rw[Ti];cases B' with
     |mem cs=>trivial
     |dead=>trivial
     |sl d' r rows' =>
      obtain⟨d,rows,e1,e2,e3⟩:=hb c d' r rows' e Ti;rw[e1]at h;obtain⟨_,q,ys,bb,o,len,cap,g1,g2,g3,g4⟩:=h;simp only[Gu,AJL,AK7]at g1;obtain⟨rfl,g1⟩:=g1;obtain rfl:=ANi g1;rw[Cv]at g3;exact⟨by simp[DC],r,rows',bb,o,len,cap,rfl,by omega,by grind[Cv],g4⟩
   simp_all
  |cons s p=>
   simp only[GZ];split
   ·trivial
   simp_all
theorem AEA{E E':Env}{w w':World}{vw vw':List Bx}{m:P5}(k:∀x v,VR E w vw x v->VR E' w' vw' (GZ m x) v){x:XV}{v:Value}(h:XR E w vw x v):XR E' w' vw' (Vn m x) v:=by
 cases x with
 |c x=>exact k x v h
 |agg l=>
  obtain⟨vs,rfl,WN⟩:=h;exact⟨vs,rfl,CX.L3 _ k WN⟩
 |MA l=>
  obtain⟨vs,rfl,WN⟩:=h;refine⟨vs,rfl,CX.L3 _ (fun x v hx=> ?_) WN⟩;cases x with
  |inl x=>exact k x v hx
  |inr q=>
   obtain⟨us,rfl,hus⟩:=hx;exact⟨us,rfl,CX.L3 _ k hus⟩
def LW(Jl:Nat->Nat):Nat->List Bx->List Bx->List Bx
 |_,[],bx=>bx
 |i,B::l,bx=>LW Jl (i+1) l (if Jl i<bx.length then bx.set (Jl i) B else bx++[B])
theorem od(Jl:Nat->Nat):∀(i:Nat) (l:List BP) (x:I8.V l) (bx:List Bx),bj Jl i l x bx=LW Jl i (I8.mk Jl l x) bx
 |_,[],_,_=>rfl
 |i,p::l,x,bx=>by simp only[bj,I8.mk,LW];exact od Jl (i+1) l x.2 _
structure yB (Jl:Nat->Nat) (M N:Nat):Prop where
 lt:∀k,k<M->Jl k<N
 eq:∀k,M<=k->Jl k=N+(k-M)
 inj:∀k k',k<M->k'<M->Jl k=Jl k'->k=k'
theorem yB.ARB{Jl:Nat->Nat}{M N:Nat}(h:yB Jl M N){k k':Nat}(e:Jl k=Jl k'):k=k':=by
 by_cases h1:k<M
 ·by_cases h2:k'<M
  ·exact h.inj k k' h1 h2 e
  ·have:=h.lt k h1
   have:=h.eq k' (by omega);omega
 ·by_cases h2:k'<M
  ·have:=h.lt k' h2
   have:=h.eq k (by omega);omega
  ·have:=h.eq k (by omega)
   have:=h.eq k' (by omega);omega
theorem iB{Jl:Nat->Nat}{M N:Nat}(h:yB Jl M N):∀{l:List Bx} {i:Nat} {bx:List Bx},bx.length=N+(i-M)->
  (LW Jl i l bx).length=N+(i+l.length-M)/\(∀(j:Nat) B,l[j]? =some B->(LW Jl i l bx)[Jl (i+j)]? =some B)/\
   ∀n,n<bx.length->(∀j,j<l.length->Jl (i+j)≠n)->(LW Jl i l bx)[n]? =bx[n]?
 |[],i,bx,hl=>⟨by grind[LW],fun j B hj=>by simp_all,fun _ _ _=>rfl⟩
 |B::l,i,bx,hl=>by
  simp only[LW];have kO:(if Jl i<bx.length then bx.set (Jl i) B else bx++[B]).length=N+(i+1-M):=by
   split
   ·rename_i IQ
    by_cases hi:i<M
    ·grind
    ·have:=h.eq i (by omega);omega
   ·rename_i IQ
    by_cases hi:i<M
    ·have:=h.lt i hi;omega
    grind
  have bQ:(if Jl i<bx.length then bx.set (Jl i) B else bx++[B])[Jl i]? =some B:=by
   split
   ·simp_all
   ·rename_i IQ
    by_cases hi:i<M
    ·grind
    ·have:=h.eq i (by omega)
     grind
  obtain⟨q1,q2,q3⟩:=iB h (l:=l) kO;refine⟨by grind,fun j C hj=> ?_,fun n hn WJ=> ?_⟩
  ·cases j with
   |zero=>
    simp at hj;subst hj;exact(q3 (Jl i) (AJM.1 bQ).1 (fun j hj e=>by have:=h.ARB e;omega)).trans bQ
   |succ j=>
    grind
  ·have AU5:=WJ 0 (by simp)
   rw[APL]at AU5;rw[q3 n (by omega) (fun j hj=>by have:=WJ (j+1) (by simp_all);grind)];grind
theorem fP{Jl:Nat->Nat}{M N:Nat}(h:yB Jl M N){E:Env}{w:World}{vw:List Bx}:∀{l:List Bx} {i:Nat} {bx:List Bx} {Fs:List AAc},bx.length=N+(i-M)->(∀k,i<=k->k<M->bx[Jl k]? =some .dead)->
  Fs.length=l.length->(∀(j:Nat) B F,l[j]? =some B->Fs[j]? =some F->tP E w vw (Jl (i+j)) B F)->C0 E w vw bx Fs.flatten->C0 E w vw (LW Jl i l bx) []
 |[],i,bx,Fs,hl,hd,hF,hB,xn=>by
  grind[List.eq_nil_of_length_eq_zero,LW]
 |B::l,i,bx,F::Fs,hl,hd,hF,hB,xn=>by
  simp only[LW];have hBi:=hB 0 B F rfl rfl;rw[APL]at hBi;have next:∀{RF},RF.length=N+(i+1-M)->(∀k,i+1<=k->k<M->RF[Jl k]? =some .dead)->C0 E w vw RF Fs.flatten->C0 E w vw (LW Jl (i+1) l RF) []:=by
   intro RF h1 h2 h3;refine fP h h1 h2 (by simp_all) (fun j C G hC hG=> ?_) h3;have:=hB (j+1) C G (by simp_all) (by simp_all);grind
  rw[APT]at xn;by_cases hi:i<M
  ·have IQ:=h.lt i hi
   rw[AI9 (by omega)];refine next (by grind) (fun k hk1 hk2=> ?_) (xn.put (hd i (ALj _) hi) hBi);rw[ALE (fun e=>by have:=h.ARB e;omega)];grind
  ·have heq:=h.eq i (by omega)
   rw[AJD (by omega)];have e1:Jl i=bx.length:=by omega
   rw[e1]at hBi;exact next (by grind) (fun k hk1 hk2=>by omega) (xn.push hBi)
 |_::_,_,_,[],_,_,hF,_,_=>by simp_all
structure wc (E' E2:Env) (l:List BP) (u:I8.V l) (vw2:List Bx) (Jl:Nat->Nat):Prop where
 ids:∀i,alive l i=true->E2.Hg (Jl i)=E'.Hg i/\E2.Hi (Jl i)=E'.Hi i
 bx:∀(i:Nat) p,l[i]? =some p-> ∃y,(I8.mk id l u)[i]? =some (p.mk id y)/\vw2[Jl i]? =some (p.mk Jl y)
 S:E2.S=E'.S
theorem dM(Jl:Nat->Nat):∀{l:List BP} {u:I8.V l} {i:Nat} {p:BP},l[i]? =some p-> ∃y:p.V,(I8.mk id l u)[i]? =some (p.mk id y)/\(I8.mk Jl l u)[i]? =some (p.mk Jl y)
 |q::l,u,0,p,h=>by
  simp at h;subst h;exact⟨u.1,rfl,rfl⟩
 |q::l,u,i+1,p,h=>by
  obtain⟨y,h1,h2⟩:=dM Jl (u:=u.2) (i:=i) (by simpa using h);grind[I8.mk]
 |[],_,_,_,h=>by simp at h
theorem Uo(Jl:Nat->Nat):∀{l:List BP} {u:I8.V l},(I8.mk Jl l u).length=l.length
 |[],_=>rfl
 |_::l,u=>by simp[I8.mk,Uo Jl (l:=l)]
section
variable{E' E2:Env} {w:World} {l:List BP} {u:I8.V l} {vw2:List Bx} {Jl:Nat->Nat} (r:wc E' E2 l u vw2 Jl)
include r
omit r in
theorem vC{i:Nat}(h:alive l i=true):∃p,l[i]? =some p/\p≠ .gone:=by
 unfold alive at h;cases e:l[i]? with
 |none=>rw[e]at h;cases h
 |some p=>
  refine⟨p,rfl,fun hp=> ?_⟩;rw[e,hp]at h;cases h
theorem ABi{p:AP}{y:p.V}{v:Value}(DX:p.LK l=true)(h:VR E' w (I8.mk id l u) (p.mk id y) v):VR E2 w vw2 (p.mk Jl y) v:=by
 cases p with
 |v t=>exact h
 |sl s q=>
  simp only[AP.LK]at DX;subst DX;simp only[AP.mk,VR,AOx]at h|-;rw[r.S];omega
 |nil=>exact h
 |ref i=>
  simp only[AP.LK,AJr]at DX;obtain⟨p,hp⟩:∃p,l[i]? =some p:=⟨_,AJA DX⟩;obtain⟨z,z1,z2⟩:=r.bx i p hp;simp only[AP.mk,VR,id]at h|-;refine⟨h.1,?_⟩;have h2:=h.2;rw[z1]at h2;rw[z2];cases p with
  |mem q=>trivial
  |gone=>trivial
  |sl d q=>
   have hid:=(r.ids i (by simp[alive,hp])).2;grind[BP.mk]
 |ptr i j=>
  simp only[AP.LK]at DX;obtain⟨p,hp,hg⟩:=vC DX;obtain⟨z,z1,z2⟩:=r.bx i p hp;refine⟨(AJM.1 z2).1,?_⟩;rw[(r.ids i DX).1];exact h.2
 |pT q=>simp[AP.LK]at DX
 |mH i sz=>simp[AP.LK]at DX
 |ta f rs=>simp[AP.LK]at DX
 |fn f Ka=>
  simp only[AP.LK,APO]at DX;obtain⟨h1,h2⟩:=h;refine⟨fun b hb=> ?_,?_⟩
  ·obtain⟨i,hi,rfl⟩:=APC.1 hb
   obtain⟨p,hp,_⟩:=vC (DX i hi);obtain⟨z,_,z2⟩:=r.bx i p hp;grind
  ·rw[h2,ARo]
   congr 2
   rw[ARo];apply AO9;intro i hi;simp only[Function.comp,id,(r.ids i (DX i hi)).1]
 |any=>trivial
theorem qW:∀{q:List AP} {y:ZL.V q} {vs:List Value},q.all (AP.LK l)=true->jy E' w (I8.mk id l u) (ZL.mk id q y) vs->jy E2 w vw2 (ZL.mk Jl q y) vs
 |[],_,[],_,_=>trivial
 |[],_,_::_,_,h=>h.elim
 |p::q,y,[],_,h=>h.elim
 |p::q,y,v::vs,DX,h=>by
  simp only[APD,AJR]at DX;exact⟨ABi r DX.1 h.1,qW DX.2 h.2⟩
theorem wb:∀{q:List (AP ⊕ List AP)} {y:Zi.V q} {vs:List Value},(q.all fun| .inl p=>p.LK l| .inr q=>q.all (AP.LK l))=true->CX (TR E' w (I8.mk id l u)) (Zi.mk id q y) vs->CX (TR E2 w vw2) (Zi.mk Jl q y) vs
 |[],_,[],_,_=>trivial
 |[],_,_::_,_,h=>h.elim
 | .inl p::q,y,[],_,h=>h.elim
 | .inr p::q,y,[],_,h=>h.elim
 | .inl p::q,y,v::vs,DX,h=>by
  simp only[APD,AJR]at DX;exact⟨ABi r DX.1 h.1,wb DX.2 h.2⟩
 | .inr p::q,y,v::vs,DX,h=>by
  simp only[APD,AJR]at DX;obtain⟨us,e,hus⟩:=h.1;exact⟨⟨us,e,qW r DX.1 hus⟩,wb DX.2 h.2⟩
theorem AOZ{p:XP}{y:p.V}{v:Value}(DX:p.LK l=true)(h:XR E' w (I8.mk id l u) (p.mk id y) v):XR E2 w vw2 (p.mk Jl y) v:=by
 cases p with
 |c p=>exact ABi r DX h
 |agg q=>
  obtain⟨vs,e,WN⟩:=h;exact⟨vs,e,qW r DX WN⟩
 |row q=>simp[XP.LK]at DX
 |MA q=>
  obtain⟨vs,e,WN⟩:=h;exact⟨vs,e,wb r DX WN⟩
theorem ALZ{i:Nat}{p:BP}{y:p.V}{F:AAc}(hi:l[i]? =some p)(DX:p.LK l=true)(h:tP E' w (I8.mk id l u) i (p.mk id y) F):tP E2 w vw2 (Jl i) (p.mk Jl y) F:=by
 cases p with
 |mem q=>
  obtain⟨h1,arr,ty,fr,h2,h3,h4⟩:=h;have hid:=(r.ids i (by simp[alive,hi])).1;exact⟨by simp_all,arr,ty,fr,by simp_all,h3,qW r DX h4⟩
 |sl d q=>
  obtain⟨h1,h2⟩:=h;refine⟨h1,?_⟩;rw[(r.ids i (by simp[alive,hi])).2,r.S];omega
 |gone=>exact h
end
end Go.Fw
end
section
namespace Go.Fw
theorem wt{s:Bc}{N:Nat}{m0 m:P5}{tm:List XV}{bx:List Bx}{x:s.V}(e:s.fit N m0 tm bx=some (x,m)):∀(k:Nat) p,s.GG[k]? =some p->p≠ .gone-> ∃b B,m[k]? =some (some b)/\bx[b]? =some B/\B≠ .dead/\
  ∀d r,p= .sl d r-> ∃d' rows,B= .sl d' r rows:=by
 simp only[Bc.fit,AJa,AJN]at e;obtain⟨m1,e1,m2,e2,a,e3,c,e4,e5⟩:=e;cases e5;obtain⟨q1,q2⟩:=SA (Jl:=id) e4;grind
theorem AEl(n:Nat):rm (List.replicate n none):=fun i j b h=>by
 grind
theorem AAe{w:World}{B B':Nat->Prop}{w':World}{r:Ty}{v:Value}{x y:List r.D}(h:Rd w B (.sl r) [v] x)(h':Rd w' B' (.sl r) [v] y):y.length=x.length:=by
 simp only[Rd]at h h';grind
section
variable{Y:Type} {P:Program} {E:Env} {σ:St} {a:Act} {w:World} {k:K Y} {y:Y}
theorem uE{E' E2:Env}{l:List BP}{u:I8.V l}{vw2:List Bx}{Jl:Nat->Nat}(r:wc E' E2 l u vw2 Jl):∀{sl:List (Nat×XP)} {z:GF.V sl} {x:Value},
  mo l sl=true->Mm E' w (I8.mk id l u) id sl z [x]->XR E2 w vw2 (gT sl z Jl) x
 |[(0,p)],z,x,DX,h=>by
  obtain⟨⟨v,hv,hx⟩,_⟩:=h;simp at hv;subst hv;exact AOZ r DX hx
 |[],_,_,DX,_=>by simp[mo]at DX
 |(_+1,_)::_,_,_,DX,_=>by simp[mo]at DX
 |(0,_)::_::_,_,_,DX,_=>by simp[mo]at DX
def gV(c:Qv)(xs:List XV)(σ:St):AAc:=
 match c.ins.fit σ.bx.length c.ins.m0 xs (c.ins.opens σ.bx)with
 |some (_,m)=>m.filterMap id
 |none=>[]
theorem vy(h:Rel E σ a w)(s:Bc):∃E',Rel E' { σ with bx:=s.opens σ.bx } a w/\Rx [] E σ.bx w E' (s.opens σ.bx) w/\(∀(i:Nat) d r,s.GG[i]? =some (.sl d r)->E'.Hi (σ.bx.length+i)= .slice none 0 0)/\
  (∀x v,XR E w σ.bx x v->XR E' w (s.opens σ.bx) x v):=by
 let E':Env:={ E with Hi:=fun k=>if k<σ.bx.length then E.Hi k else .slice none 0 0 }
 have hlen:σ.bx.length<=(s.opens σ.bx).length:=by simp[Bc.opens]
 have hold:∀b,b<σ.bx.length->(s.opens σ.bx)[b]? =σ.bx[b]?:=fun b hb=>by simp only[Bc.opens];rw[AKW hb]
 have jj:∀b,b<σ.bx.length->E'.Hi b=E.Hi b:=fun b hb=>by simp only[E'];rw[AI9 hb]
 have keep:Tk E w σ.bx E' w (s.opens σ.bx):=
  ⟨hlen,fun _ _=>rfl,fun _ h=>h,fun _ h=>h,h.bx.st,fun _ _=>rfl,fun b d r rows hb e=>⟨d,rows,by rw[<-hold b hb];exact e,fun p hp q ys hg=>⟨hp,⟨ys,hg,rfl⟩,fun hh he=>by rw[jj b hb];exact he⟩⟩⟩
 obtain⟨Fs,⟨f1,f2⟩,f3⟩:=h.bx;refine⟨E',⟨h.N4,h.tm.imp fun _ _ hx=>Pc keep hx,?_⟩,?_,fun i d r hi=>by simp only[E'];rw[AJD (by omega)],fun x v hx=>Pc keep hx⟩
 ·refine⟨Fs++List.replicate s.GG.length [],⟨by simp[Bc.opens,f1],fun n B F hB hF=> ?_⟩,?_⟩
  ·by_cases hn:n<σ.bx.length
   ·rw[hold n hn]at hB
    rw[AKW (by omega)]at hF;have:=f2 n B F hB hF;cases B with
    |mem cs=>
     obtain⟨rfl,arr,ty,fr,a1,a2,a3⟩:=this;exact⟨rfl,arr,ty,fr,a1,a2,a3.imp fun _ _ hv=>GB keep hv⟩
    |sl d r rows=>exact⟨this.1,by rw[jj n hn];exact this.2⟩
    |dead=>exact this
   ·rw[ALb (by omega)]at hF
    have hF':F=[]:=AO7 (ALA hF);subst hF';simp only[Bc.opens]at hB;rw[ALb (by omega),ANd,AJN]at hB;obtain⟨p,_,rfl⟩:=hB;have hh:E'.Hi n= .slice none 0 0:=by simp only[E'];rw[AJD hn]
    cases p with
    |mem q=>rfl
    |gone=>rfl
    |sl d r=>exact⟨by omega,by rw[hh];exact rE⟩
  ·have:(Fs++List.replicate s.GG.length []).flatten=Fs.flatten:=by simp
   rw[this];exact⟨f3.nodup,f3.free,f3.lt,f3.st,f3.cI,f3.tu.mono (fun _ h=>h) (fun _ _=>rfl)⟩
 ·refine⟨⟨fun _ h=>h,fun _ h=>h,fun _ h=> .inl h,fun _ h=> .inl h,fun _ _=>rfl,rfl,rfl,rfl,ALj _⟩,hlen,fun b hb=>⟨rfl,jj b hb⟩,fun b hb=> ?_,fun n B B' _ hB Ti hd=> ?_⟩
  ·rw[hold b (AJM.1 hb).1];exact hb
  ·rw[hold n (AJM.1 hB).1,hB]at Ti
   cases Ti;exact⟨WQ.refl hd,fun _ _=>rfl⟩
theorem Rx.after{t:AAc}{E E' E'':Env}{bx RF ASH:List Bx}{w w':World}(h:Rx [] E bx w E' RF w)(hb:∀b,b<bx.length->RF[b]? =bx[b]?)(k:Rx t E' RF w E'' ASH w'):Rx t E bx w E'' ASH w':=
 ⟨h.base.trans k.base,AOT h.len k.len,fun b IQ=>⟨(k.ids b (AOX IQ h.len)).1.trans (h.ids b IQ).1,(k.ids b (AOX IQ h.len)).2.trans (h.ids b IQ).2⟩,fun b hd=>k.dead b (h.dead b hd),fun n B B' hn hB Ti hd=>by
  have IQ:=(AJM.1 hB).1;obtain⟨k1,k2⟩:=k.frame n B B' hn (by simp_all) Ti hd;refine⟨k1,fun c hc=>k2 c ?_⟩;cases B with
  |mem cs=>simp only[BRB]at hc|-;rw[(h.ids n IQ).1];omega
  |sl d r rows=>simp only[BRB]at hc|-;rw[(h.ids n IQ).2];omega
  |dead=>exact hc⟩
def AJz(c:Qv)(N:Nat)(xs:List XV)(σ:St)(k:K Y):Option Y:=
 match c.ins.fit N c.ins.m0 xs σ.bx with
 |some (v,m)=>(c.g v).bind fun u=>
  let Jl:=Z1 m σ.bx.length
  let σ1:=σ.aq m
  k (gT c.outs.Dw u.1 Jl) { σ1 with bx:=bj Jl 0 c.outs.GG u.2 (Cx σ1.bx m) }
 |none=>none
def ABg(c:Qv)(N:Nat)(xs:List XV)(σ:St):AAc:=
 match c.ins.fit N c.ins.m0 xs σ.bx with
 |some (_,m)=>m.filterMap id
 |none=>[]
theorem ABJ{f:Nat}{c:Qv}(hc:L4 P f c)(h:Rel E σ a w){N0:Nat}(AA9:∀(i:Nat) d r,c.ins.GG[i]? =some (.sl d r)->E.Hi (N0+i)= .slice none 0 0){xs:List XV}{vs:List Value}(hxs:CX (XR E w σ.bx) xs vs)(hlen:xs.length=c.ins.Dw.length)(e:AJz c N0 xs σ k=some y):
  Calls P f vs.toArray w fun e w' => ∃x E' xv σ',e= .returned x/\Rel E' σ' a w'/\XR E' w' σ'.bx xv x/\Rx (ABg c N0 xs σ) E σ.bx w E' σ'.bx w'/\σ'.tm.length=σ.tm.length/\k xv σ' =some y:=by
 obtain⟨DX,_,vN⟩:=hc;simp only[Qv.ok,AJR]at DX;obtain⟨⟨hk,hslot⟩,hbo⟩:=DX;obtain⟨hklen,hk⟩:=Xz hk;unfold AJz at e;split at e
 case h_2=>cases e
 rename_i v m eV;simp only[AJa]at e;obtain⟨u,hg,e⟩:=e;obtain⟨_,E1,hf⟩:=mT h.bx hxs AA9 (by simp[Bc.m0]) (AEl _) eV;have K8:vs.toArray.size=c.ins.Dw.length:=by rw[<-hlen,CX.len hxs];simp
 refine(vN E1 w v vs.toArray u K8 hf.boxes (by simpa using hf.Dw) hg).mono fun e' w' hR=> ?_
 obtain⟨x,E',rfl,base,⟨Fs,hFs1,hFs2⟩,Dw,zQ⟩:=hR;simp only[AKX]at hFs2;obtain⟨Fk,k1,k2,k3,k4⟩:=hf.rest;have st:=h.bx.st;have cI:=h.bx.cI;have hM:m.length=c.ins.GG.length:=hf.len;have all:∀i,i<m.length-> ∃b B,m[i]? =some (some b)/\σ.bx[b]? =some B/\B≠ .dead/\ ∀d r,c.ins.GG[i]? =some (.sl d r)-> ∃d' rows,B= .sl d' r rows:=by
  intro i hi;have hp:c.ins.GG[i]? =some (c.ins.GG[i]'(by omega)):=AJA _;obtain⟨b,B,h1,h2,h3,h4⟩:=wt eV i _ hp (hk i _ hp).1;exact⟨b,B,h1,h2,h3,fun d r hh=>h4 d r (by rw[hp]at hh;exact AS9 hh)⟩
 let N:=σ.bx.length
 let M:=m.length
 have AB5:∀i b,m[i]? =some (some b)->Z1 m N i=b:=fun i b h=>by simp[Z1,h]
 have AFc:∀i,M<=i->Z1 m N i=N+(i-M):=fun i hi=>by
  have:m[i]? =none:=APp hi;simp[Z1,this,M]
 have ro:yB (Z1 m N) M N:=⟨fun i hi=>by
   obtain⟨b,B,h1,h2,_⟩:=all i hi;rw[AB5 i b h1];exact(AJM.1 h2).1,AFc,fun i j hi hj e=>by
   obtain⟨b,B,h1,h2,_⟩:=all i hi;obtain⟨b',B',h1',h2',_⟩:=all j hj;rw[AB5 i b h1,AB5 j b' h1']at e;subst e;exact hf.inj i j b h1 h1'⟩
 let E2:Env:={
   Hg:=fun n=>if n<N then E.Hg n else E'.Hg (M+(n-N))
   Hi:=fun n=>if n<N then E.Hi n else E'.Hi (M+(n-N))
   T:=fun c=>E.T c\/E'.S c
   S:=E'.S }
 have hS:∀c,E.S c->E'.S c:=fun d hd=>base.S d (hf.S d hd)
 have hSk:∀d∈Fk.flatten,¬E'.S d:=fun d hd hs=>by
  obtain⟨_,n2,_,n4⟩:=k3 d hd;exact(base.Sof d hs).elim n2 (fun h=>h n4)
 have vz:∀d,E.T d->w'.heap[d]? =w.heap[d]?:=fun d hd=>base.heap d (hf.T d hd)
 have AFt:∀d∈Fk.flatten,w'.heap[d]? =w.heap[d]?:=fun d hd=>base.heap d (k3 d hd).2.2.2
 have ARO:fb E w E2 w':=⟨fun d hd=> .inl hd,hS,fun d hd=>hd,fun d hd=>by
   rcases base.Sof d hd with h|h
   ·exact hf.Sof d h
   ·exact .inr fun ht=>h (hf.T d ht),vz,base.os,base.tape,base.output,base.size⟩
 let vw':=I8.mk id c.outs.GG u.2
 let Bs:=I8.mk (Z1 m N) c.outs.GG u.2
 let bk:=(Cx σ.bx m).map (Bx.map (GZ m))
 have hbk:Cx (σ.aq m).bx m=bk:=by rw[ADA,fh]
 have AP_:bk.length=N:=by simp[bk,HZ,N]
 let bJ:=LW (Z1 m N) 0 Bs bk
 have AUp:bj (Z1 m N) 0 c.outs.GG u.2 (Cx (σ.aq m).bx m)=bJ:=by rw[od,hbk]
 obtain⟨s1,s2,s3⟩:=iB ro (l:=Bs) (i:=0) (bx:=bk) (by simp[AP_]);have AWs:Bs.length=c.outs.GG.length:=Uo _;have oB:σ.bx.length<=bJ.length:=by
  show N<=bJ.length
  have:bJ.length=N+(0+Bs.length-M):=s1;omega
 have rn:wc E' E2 c.outs.GG u.2 bJ (Z1 m N):=by
  refine⟨fun i hi=> ?_,fun i p hp=> ?_,rfl⟩
  ·by_cases him:i<M
   ·obtain⟨b,B,h1,h2,_⟩:=all i him
    have hbl:b<N:=(AJM.1 h2).1;have g1:=hf.ids i b h1;have g2:=zQ i (by omega) hi;rw[AB5 i b h1];simp only[E2,AI9 hbl];exact⟨by rw[g2.1,g1.1],by rw[g2.2,g1.2]⟩
   ·rw[AFc i (by omega)]
    have: ¬(N+(i-M)<N):=by omega
    simp only[E2,AJD this];rw[show M+(N+(i-M)-N)=i by omega];exact⟨rfl,rfl⟩
  ·obtain⟨z,z1,z2⟩:=dM (Z1 m N) (u:=u.2) hp
   refine⟨z,z1,?_⟩;have:=s2 i _ z2
   rwa [APB]at this
 have AFm:∀n,n<N->some n∉m->bJ[n]? =bk[n]?:=fun n hn hm=>by
  refine s3 n (by omega) fun j hj he=> ?_
  rw[APB]at he;by_cases hjm:j<M
  ·obtain⟨b,B,h1,h2,_⟩:=all j hjm
   rw[AB5 j b h1]at he;subst he;exact hm (ALA h1)
  ·have:=AFc j (by omega)
   omega
 have keep:Tk E w σ.bx E2 w' (Cx bJ m):=by
  refine⟨by rw[HZ];exact oB,fun b hb=>by simp only[E2];rw[AI9 hb],fun d hd=> .inl hd,hS,st,vz,fun b d r rows hb hq=> ?_⟩;have hbm:some b∉m:=fun hm=>by have:=Xp hm hq;cases this
  rw[Ri hbm,AFm b hb hbm]at hq;have hq1:=AGX hq;have hq2:σ.bx[b]? =some (.sl d r rows):=by
   rcases SH (FB.refl σ.bx) b _ hq1 with e|e
   ·cases e
   ·exact e
  refine⟨d,rows,hq2,fun p hp q ys hgp=>⟨hp,⟨ys,hgp,rfl⟩,fun h' hh=> ?_⟩⟩;have hFk:Fk[b]? =some (Fk[b]'(by rw[k1.1,HZ];exact hb)):=AJA _;obtain⟨_,ho⟩:=k1.2 b _ _ hq1 hFk;have e2:E2.Hi b=E.Hi b:=by simp only[E2];rw[AI9 hb]
  rw[e2];exact wy ho (fun d hd=>vz d (st d hd)) (fun d hd=>AFt d (ANa.2 ⟨_,ALA hFk,hd⟩)) hp hgp hh
 have vr:∀x v,VR E w σ.bx x v->VR E2 w' bJ (GZ m x) v:=fun x v hx=>by
  refine ADo keep (fun b d' r rows' hbm hq=> ?_) oB hx;obtain⟨i,hi,him⟩:=AOq hbm;have ALz:m[i]? =some (some b):=by rw[AJA hi,him]
  obtain⟨b',B,h1,h2,h3,h4⟩:=all i hi;rw[ALz]at h1;cases h1;have hio:i<c.outs.GG.length:=by omega
  have hp:c.outs.GG[i]? =some c.outs.GG[i]:=AJA hio;obtain⟨z,z1,z2⟩:=rn.bx i _ hp;rw[AB5 i b ALz,hq]at z2;have ARv:c.ins.GG[i]? =some (c.ins.GG[i]'(by omega)):=AJA _
  generalize c.outs.GG[i]=po at z hp z1 z2
  cases po with
  |mem q=>simp[BP.mk]at z2
  |gone=>simp[BP.mk]at z2
  |sl d0 q=>
   simp only[BP.mk,AJL,Bx.sl.injEq]at z2;obtain⟨rfl,rfl,z2⟩:=z2;obtain rfl:=ANi z2;obtain⟨d1,qd⟩:=(hk i _ ARv).2 _ _ hp;obtain⟨d2,rows,rfl⟩:=h4 d1 r (by rw[ARv,qd]);have hbl:b<N:=(AJM.1 h2).1;have eh:E2.Hi b=E.Hi b:=by simp only[E2];rw[AI9 hbl]
   refine⟨d2,rows,h2,?_,eh⟩;obtain⟨F0,hR0,_⟩:=h.bx.take h2;have hFi:Fs[i]? =some (Fs[i]'(by rw[hFs1.1,Uo];exact hio)):=AJA _;obtain⟨_,ho'⟩:=hFs1.2 i _ _ z1 hFi;have hal:alive c.outs.GG i=true:=by simp[alive,hp]
   rw[(zQ i (by omega) hal).2,(hf.ids i b ALz).2]at ho';exact AAe (ZJ hR0.2) (ZJ ho')
 have X0:c.outs.GG.all (BP.LK c.outs.GG)=true:=hbo;have rel:Rel E2 { tm:=(σ.aq m).tm,bx:=bJ } a w':=by
  refine⟨h.N4,?_,?_⟩
  ·rw[vm]
   exact CX.L3 _ (fun x v hx=>AEA vr hx) h.tm
  ·refine fP ro (Fs:=Fs) (by simp[AP_]) (fun i _ hi=> ?_) (by rw[hFs1.1,Uo];exact AWs.symm) (fun j B F hB hF=> ?_) ?_
   ·obtain⟨b,B,h1,h2,_⟩:=all i hi
    rw[AB5 i b h1];have hbl:b<(Cx σ.bx m).length:=by rw[HZ];exact(AJM.1 h2).1
    have hd:(Cx σ.bx m)[b]? =some .dead:=by
     rw[AJA hbl];exact congrArg some (Xp (ALA h1) (AJA hbl))
    simp only[bk];rw[ANd,hd];rfl
   ·rw[APB]
    have yV:=(AJM.1 hB).1;have hp:c.outs.GG[j]? =some (c.outs.GG[j]'(by omega)):=AJA _;obtain⟨z,z1,z2⟩:=dM (Z1 m N) (u:=u.2) hp;have Ti:Bs[j]? =_:=z2;rw[hB]at Ti;cases Ti;exact ALZ rn hp (APO.1 X0 _ (AJ7 _)) (hFs1.2 j _ _ z1 hF)
   ·
    refine⟨Fk,⟨by simp[bk,k1.1],fun n B F hn hF=> ?_⟩,?_⟩
    ·simp only[bk]at hn
     rw[ANd,AJN]at hn;obtain⟨B0,hn,rfl⟩:=hn;have wu:n<N:=by have:=(AJM.1 hn).1;rwa [HZ]at this
     have h3:=k1.2 n B0 F hn hF;have hFw:∀d∈F,w'.heap[d]? =w.heap[d]?:=fun d hd=>AFt d (ANa.2 ⟨F,ALA hF,hd⟩)
     have eb:E2.Hg n=E.Hg n:=by simp only[E2];rw[AI9 wu]
     have eh:E2.Hi n=E.Hi n:=by simp only[E2];rw[AI9 wu]
     cases B0 with
     |mem cs=>
      obtain⟨rfl,arr,ty,fr,ha,hu,hv⟩:=h3;exact⟨by rw[eb],arr,ty,fr,by rw[eb,hFw _ (by simp),ha],hu,CX.L3 _ vr hv⟩
     |sl d r rows=>
      refine⟨h3.1,?_⟩;rw[eh];exact EP hS (fun d hd=>vz d (st d hd)) hFw h3.2
     |dead=>exact h3
    ·refine⟨AKg.2 ⟨k2,hFs2.nodup,fun x hx z hz he=> ?_⟩,fun d hd ht=> ?_,fun d hd=> ?_,fun d hd=> .inr hd,fun d hd=> ?_,h.bx.tu.mono (fun _ h=> .inl h) vz⟩
     ·subst he
      exact hFs2.free x hz (base.T x (k3 x hx).2.2.2)
     ·rcases ALk.1 hd with hd|hd
      ·rcases ht with ht|ht
       ·exact(k3 d hd).1 ht
       ·exact hSk d hd ht
      ·rcases ht with ht|ht
       ·exact hFs2.free d hd (base.T d (hf.T d ht))
       ·exact hFs2.free d hd (hFs2.st d ht)
     ·rcases ALk.1 hd with hd|hd
      ·exact AOX (k3 d hd).2.2.1 base.size
      ·exact hFs2.lt d hd
     ·rcases hd with hd|hd
      ·exact AOX (cI d hd) base.size
      ·exact hFs2.cI d (hFs2.st d hd)
 have AHs:Rx (ABg c N0 xs σ) E σ.bx w E2 bJ w':=by
  refine⟨ARO,oB,fun n hn=>⟨by simp only[E2];rw[AI9 hn],by simp only[E2];rw[AI9 hn]⟩,fun n hn=> ?_,fun n B B' hnt hB Ti hnd=> ?_⟩
  rotate_left 1
  ·have wu:=(AJM.1 hB).1
   have hnm:some n∉m:=fun hm=>hnt (by
    simp only[ABg,eV,List.mem_filterMap];exact⟨some n,hm,rfl⟩)
   rw[AFm n wu hnm]at Ti;simp only[bk]at Ti;have hkn:(Cx σ.bx m)[n]? =some B:=by rw[Ri hnm];exact hB
   rw[ANd,hkn]at Ti;have Ti:Bx.map (GZ m) B=B':=by simpa using Ti
   have hFk:Fk[n]? =some (Fk[n]'(by rw[k1.1,HZ];exact wu)):=AJA _;refine⟨?_,fun d hd=> ?_⟩
   ·subst Ti
    cases B with
    |mem cs=>trivial
    |sl d r rows=>rfl
    |dead=>exact absurd rfl hnd
   ·rcases gh (k1.2 n B _ hkn hFk) hd with hs|hs
    ·exact vz d (st d hs)
    ·exact AFt d (ANa.2 ⟨_,ALA hFk,hs⟩)
  have wu:=(AJM.1 hn).1;have hnm:some n∉m:=fun hm=>by
   obtain⟨i,hi,him⟩:=AOq hm;obtain⟨b,B,h1,h2,h3,_⟩:=all i hi;rw[AJA hi,him]at h1;cases h1;rw[hn]at h2;cases h2;exact h3 rfl
  rw[AFm n wu hnm];simp only[bk];rw[ANd,Ri hnm,hn];rfl
 refine⟨x,E2,gT c.outs.Dw u.1 (Z1 m N),{ tm:=(σ.aq m).tm,bx:=bJ },rfl,rel,uE rn hslot Dw,AHs,by simp[vm],?_⟩;rw[AUp]at e;exact e
theorem AER{f:Nat}{c:Qv}(hc:L4 P f c)(h:Rel E σ a w){xs:List XV}{vs:List Value}(hxs:CX (XR E w σ.bx) xs vs)(e:oH c xs σ k=some y):
  Calls P f vs.toArray w fun e w' => ∃x E' xv σ',e= .returned x/\Rel E' σ' a w'/\XR E' w' σ'.bx xv x/\Rx (gV c xs σ) E σ.bx w E' σ'.bx w'/\σ'.tm.length=σ.tm.length/\k xv σ' =some y:=by
 unfold oH at e;split at e
 case isFalse=>cases e
 rename_i hlen;obtain⟨E',h1,h2,h3,h4⟩:=vy h c.ins;have hold:∀b,b<σ.bx.length->(c.ins.opens σ.bx)[b]? =σ.bx[b]?:=fun b hb=>by grind[Bc.opens,List.getElem?_append_left]
 refine(ABJ (N0:=σ.bx.length) hc h1 h3 (hxs.imp fun x v hx=>h4 x v hx) hlen (k:=k) (y:=y) e).mono fun e' w' hR=> ?_
 obtain⟨x,E2,xv,σ',q0,q1,q2,q3,q4,q5⟩:=hR;exact⟨x,E2,xv,σ',q0,q1,q2,h2.after hold q3,q4,q5⟩
end
end Go.Fw
end
section
namespace Go.Fw
def jT(P:Program)(Γ:Nat->Option Qv):Prop:= ∀f c,Γ f=some c->L4 P f c
theorem uJ{Γ:Nat->Option Qv}{σ:St}{o:Op}(h:tH o=false):KP (fun _=>none) σ o=KP Γ σ o:=by
 cases o with
 |call c=>
  obtain⟨callee,args,uZ⟩:=c;cases callee with
  |value f=>simp[tH]at h
  |invoke _ _=>rfl
  |builtin b=>cases b<;>rfl
 |_=>rfl
theorem ARL{Y:Type}{P:Program}{Γ:Nat->Option Qv}{o:Oper}{E:Env}{σ:St}{a:Act}{w:World}{k:K Y}{y:Y}{g:Nat}{c:Qv}(hsc:L4 P g c)(h:Rel E σ a w){f:Operand}{args:Array Operand}{uZ:Array TypeId}
  (ho:o.op= .call { callee:= .value f,args:=args,argTypes:=uZ }) {ps:List Value} (bu:a.eval f= .func (.func g) #[] ps.toArray) {xs:List XV} (IV:CX (XR E w σ.bx) xs (args.toList.map a.eval++ps)) (ht:KP Γ σ o.op=gV c xs σ)
  (e:oH c xs σ k=some y) {next:Act->World->Prop} {Q:Exit->Act->World->Prop}
  (hn:∀v w' E' x σ',Rel E' σ' a w'->XR E' w' σ'.bx x v->Rx (KP Γ σ o.op) E σ.bx w E' σ'.bx w'->σ'.tm.length=σ.tm.length->k x σ' =some y->next (a.put o.dst v) w'):o.wp P a w next Q:=by
 have vN:=AER hsc h IV e;have mV:(execOp a.eval o).run P w= .ok (.enter g (args.toList.map a.eval++ps).toArray) w:=by
  have e2:(args.map a.eval)++ps.toArray=(args.toList.map a.eval++ps).toArray:=by
   simp_all
  simp only[execOp,ho,resolve,bu,Deferred.ofValue,Sem.run_bind,Sem.run_pure,Result.andThen_ok,invoke,Array.empty_append,e2,hsc.2.1]
 unfold Oper.wp;rw[mV];simp only[Oper.upon];refine vN.mono fun e w' hR=> ?_
 grind
section
variable{Y:Type} {P:Program} {T:JR} (hT:ES P T) {Γ:Nat->Option Qv} (hΓ:jT P Γ) {o:Oper} {E:Env} {σ:St} {a:Act} {w:World} {k:K Y} {y:Y}
include hT hΓ
theorem ACT(h:Rel E σ a w)(e:ZC T Γ o σ k=some y){next:Act->World->Prop}{Q:Exit->Act->World->Prop}
  (hn:∀v w' E' x σ',Rel E' σ' a w'->XR E' w' σ'.bx x v->Rx (KP Γ σ o.op) E σ.bx w E' σ'.bx w'->σ'.tm.length=σ.tm.length->k x σ' =some y->next (a.put o.dst v) w'):o.wp P a w next Q:=by
 by_cases hc:tH o.op=false
 ·obtain⟨v,w',E',x,σ',hr,h1,h2,h3,h4,h5⟩:=ADb hT h e hc
  rw[uJ hc]at h3;unfold Oper.wp;rcases hr with hr|⟨hr,rfl⟩
  ·rw[hr]
   exact hn v w' E' x σ' h1 h2 h3 h4 h5
  ·rw[hr]
   exact hn _ w' E' x σ' h1 h2 h3 h4 h5
 ·
  unfold tH at hc;split at hc
  case h_2=>simp_all
  rename_i f args uZ ho;unfold ZC at e;rw[ho]at e;dsimp only at e;split at e
  case h_3=>cases e
  ·rename_i g Ka hf
   split at e
   case h_2=>cases e
   rename_i c hg;have hv:=h.ev f;rw[hf]at hv;obtain⟨eE,bu⟩:(∀b∈Ka,b<σ.bx.length)/\a.eval f= .func (.func g) #[] (Ka.map fun b=>Value.pointer (some ⟨E.Hg b,0,none⟩)).toArray:=hv;have hsc:=hΓ g c hg;have IV:CX (XR E w σ.bx) (args.toList.map σ.ev++Ka.map fun b=> .c (.IX b 0)) (args.toList.map a.eval++Ka.map fun b=>Value.pointer (some ⟨E.Hg b,0,none⟩)):=by
    refine CX.append (evs h args.toList) ?_
    clear bu hf e
    induction Ka with
    |nil=>trivial
    |cons b l ih=>exact⟨⟨eE b (by simp),rfl⟩,ih (fun c hc=>eE c (by simp[hc]))⟩
   grind[KP,gV,ARL]
  ·rename_i g rows hf
   split at e
   case h_2=>cases e
   rename_i c hg;have hv:=h.ev f;rw[hf]at hv;obtain⟨ps,bu,eE⟩:∃ps:List Value,a.eval f= .func (.func g) #[] ps.toArray/\CX (RA E w) rows ps:=hv;have hsc:=hΓ g c hg;have IV:CX (XR E w σ.bx) (args.toList.map σ.ev++rows.map fun q=> .c (.Pv false q.1 q.2 0)) (args.toList.map a.eval++ps):=by
    refine CX.append (evs h args.toList) ?_
    clear bu hf e
    induction rows generalizing ps with
    |nil=>
     cases ps with
     |nil=>trivial
     |cons _ _=>exact eE.elim
    |cons q l ih=>
     cases ps with
     |nil=>exact eE.elim
     |cons p ps=>
      obtain⟨⟨bb,o,cs,h1,h2,h3,h4,h5⟩,eE⟩:=eE;exact⟨⟨bb,o,cs,h1,h2,h3,h4,h5⟩,ih ps eE⟩
   grind[KP,gV,ARL]
end
theorem Rel.tmp{E:Env}{σ:St}{a:Act}{w:World}(h:Rel E σ a w){t:Nat}{x:XV}(e:σ.tm[t]? =some x):∃v,a.tmps[t]? =some v/\XR E w σ.bx x v:=by
 obtain⟨v,h1,h2⟩:=h.tm.get e;simp_all
def AMb:Value->Option Bool
 | .bool b=>some b
 |_=>none
theorem cx{ops:Array Oper}{tmps:Array Value}{j t:Nat}(e:(ops[j]?).bind (·.dst)=some t){v:Value}(hv:tmps[t]? =some v):yielded ops tmps j=AMb v:=by
 simp only[yielded,e,AKD,hv];cases v<;>rfl
theorem r9{E:Env}{w:World}{vw:List Bx}:XR E w vw (.MA []) undef:=⟨#[],rfl,trivial⟩
structure Ok (E0:Env) (w0:World) (N nb:Nat) (E:Env) (σ:St) (a:Act) (w:World):Prop where
 rel:Rel E σ a w
 base:fb E0 w0 E w
 tm:σ.tm.length=N
 qY:nb<=σ.bx.length
 ids:∀i,i<nb->σ.bx[i]?≠some .dead->E.Hg i=E0.Hg i/\E.Hi i=E0.Hi i
theorem Ok.next{E0 E E':Env}{w0 w w':World}{N nb:Nat}{σ σ':St}{a a':Act}{t:AAc}(h:Ok E0 w0 N nb E σ a w)(hr:Rel E' σ' a' w')(hw:Rx t E σ.bx w E' σ'.bx w')(hl:σ'.tm.length=σ.tm.length):Ok E0 w0 N nb E' σ' a' w':=
 ⟨hr,h.base.trans hw.base,hl.trans h.tm,AOT h.qY hw.len,fun i hi hd=>by
  have h1:=hw.ids i (AOX hi h.qY);have h2:=h.ids i hi (fun hh=>hd (hw.dead i hh));simp_all⟩
theorem Ok.put{E0 E:Env}{w0 w:World}{N nb:Nat}{σ:St}{a:Act}(h:Ok E0 w0 N nb E σ a w)(dst:Option Tmp){x:XV}{v:Value}(hx:XR E w σ.bx x v):Ok E0 w0 N nb E (σ.put dst x) (a.put dst v) w:=by
 have e1:(σ.put dst x).bx=σ.bx:=by cases dst<;>rfl
 have e2:(σ.put dst x).tm.length=σ.tm.length:=by cases dst<;>simp[St.put]
 refine⟨h.rel.put dst hx,h.base,e2.trans h.tm,by rw[e1];exact h.qY,fun i hi hd=>h.ids i hi (by simp_all)⟩
theorem Ok.same{E0 E:Env}{w0 w:World}{N nb:Nat}{σ σ1:St}{a:Act}(h:Ok E0 w0 N nb E σ a w)(hr:Rel E σ1 a w)(hb:σ1.bx=σ.bx)(hl:σ1.tm.length=σ.tm.length):Ok E0 w0 N nb E σ1 a w:=
 ⟨hr,h.base,hl.trans h.tm,by rw[hb];exact h.qY,fun i hi hd=>h.ids i hi (by rwa [hb]at hd)⟩
end Go.Fw
end
section
namespace Go.Fw
section
variable{Y:Type}
abbrev k0:K (XV×St):=fun x σ=>some (x,σ)
theorem AD7{op:BinOp}{κ:IntKind}{a b:Int}(k:AV->Option Y):iM op κ a b k=(iM op κ a b some).bind k:=by
 cases op<;>simp[iM]<;>split<;>rfl
theorem ye{op:BinOp}{κ:IntKind}{a b:Int}(k:AV->Option Y):Zz op κ a b k=(Zz op κ a b some).bind k:=by
 unfold Zz;grind
theorem ADR{op:BinOp}{a b:AAZ}(k:AV->Option Y):lI op a b k=(lI op a b some).bind k:=by
 cases op<;>simp[lI]<;>split<;>rfl
theorem r6{T:JR}{t:Nat}{op:BinOp}{a b:XV}(k:AV->Option Y):yQ T t op a b k=(yQ T t op a b some).bind k:=by
 unfold yQ;grind[ye,AD7,ADR]
theorem wS{op:UnOp}{a:XV}(k:AV->Option Y):unX op a k=(unX op a some).bind k:=by
 unfold unX;grind
theorem bm{g:Bool}{a b:XV}(k:AV->Option Y):wR g a b k=(wR g a b some).bind k:=by
 unfold wR;grind
theorem L5{len:Nat}{lo hi:Option XV}(k:Nat->Nat->Option Y):O9 len lo hi k=(O9 len lo hi fun l h=>some (l,h)).bind fun p=>k p.1 p.2:=by
 unfold O9;grind
theorem ABE{T:JR}{t:Nat}{σ:St}{x:XV}{lo hi:Option XV}(k:K Y):nu T t σ x lo hi k=(nu T t σ x lo hi k0).bind fun p=>k p.1 p.2:=by
 unfold nu;split
 ·split
  ·rw[L5,L5 (Y:=XV×St),AQe];rfl
  ·rfl
 ·split
  ·rw[L5,L5 (Y:=XV×St),AQe];rfl
  ·rfl
 ·split
  ·split
   ·rw[L5,L5 (Y:=XV×St),AQe];rfl
   ·rfl
  ·rfl
 ·rfl
theorem AB7{T:JR}{t:Nat}{σ:St}{x i:XV}(k:K Y):mu σ T t x i k=(mu σ T t x i k0).bind fun p=>k p.1 p.2:=by
 unfold mu;grind
theorem um{T:JR}{t:Nat}{σ:St}{x i:XV}(k:K Y):Xs T t σ x i k=(Xs T t σ x i k0).bind fun p=>k p.1 p.2:=by
 unfold Xs;grind
theorem ADD{T:JR}{s d:Nat}{σ:St}{x:XV}(k:K Y):vE T s d σ x k=(vE T s d σ x k0).bind fun p=>k p.1 p.2:=by
 unfold vE;grind
theorem ADI{T:JR}{t:Nat}{σ:St}{l c:XV}(k:K Y):vT T t σ l c k=(vT T t σ l c k0).bind fun p=>k p.1 p.2:=by
 grind[vT]
theorem qG{T:JR}{t n:Nat}{ps:List (Nat×XV)}{σ:St}(k:K Y):Rr T t n ps σ k=(Rr T t n ps σ k0).bind fun p=>k p.1 p.2:=by
 grind[Rr,Option.bind_assoc]
theorem zR{T:JR}{ts:Array TypeId}{σ:St}{a x:XV}(k:K Y):gP T ts σ a x k=(gP T ts σ a x k0).bind fun p=>k p.1 p.2:=by
 unfold gP;split
 all_goals grind
theorem ABV{T:JR}{ts:Array TypeId}{σ:St}{x:XV}(k:K Y):nA T ts σ x k=(nA T ts σ x k0).bind fun p=>k p.1 p.2:=by
 unfold nA;grind
theorem ADP{c:Qv}{xs:List XV}{σ:St}(k:K Y):oH c xs σ k=(oH c xs σ k0).bind fun p=>k p.1 p.2:=by
 grind[oH,Option.bind_assoc]
theorem zc{σ:St}{x:XV}(k:K Y):cj σ x k=(cj σ x k0).bind fun p=>k p.1 p.2:=by
 unfold cj;grind
theorem ADt{T:JR}{Γ:Nat->Option Qv}{o:Oper}{σ:St}(k:K Y):ZC T Γ o σ k=(ZC T Γ o σ k0).bind fun p=>k p.1 p.2:=by
 unfold ZC;split
 ·rfl
 ·exact zc k
 ·split
  ·rename_i x _
   cases x<;>rfl
  ·rfl
 ·grind
 ·grind
 ·grind
 ·exact qG k
 ·grind
 ·grind
 ·grind
 ·rw[r6,r6 (Y:=XV×St),AQe];rfl
 ·rw[wS,wS (Y:=XV×St),AQe];rfl
 ·exact ADD k
 ·grind
 ·exact ADI k
 ·exact ABE k
 ·grind
 ·grind
 ·exact AB7 k
 ·exact um k
 ·grind
 ·grind[ADP]
 ·grind
 ·grind[zR]
 ·grind[ABV]
 ·split
  ·rw[bm,bm (Y:=XV×St),AQe];rfl
  ·rfl
 ·split
  ·rw[bm,bm (Y:=XV×St),AQe];rfl
  ·rfl
 ·rfl
theorem l5{I:Type}[Nonempty I]{T:JR}{Γ:Nat->Option Qv}{o:Oper}{σ:St}{k:I->K Y}{y:Y}(h:∀i,ZC T Γ o σ (k i)=some y):∃x σ',ZC T Γ o σ k0=some (x,σ')/\ ∀i,k i x σ' =some y:=by
 obtain⟨i0⟩:= ‹Nonempty I›;have h0:=h i0;grind[ADt,Option.bind_eq_some_iff]
end
end Go.Fw
end
section
namespace Go.Fw
def WF{α:Type}(P:Program)(s:Sem α):Prop:= ∀w v w1,s.run P w= .ok v w1-> ∀w',s.run P w' = .ok v w'
section
variable{α β:Type} {P:Program}
theorem WF.pure(x:α):WF P (Pure.pure x:Sem α):=fun w v w1 h w' =>by
 simp_all
theorem WF.bind{s:Sem α}{f:α->Sem β}(h:WF P s)(k:∀v,WF P (f v)):WF P (s >>= f):=fun w v w1 e w' =>by
 rw[Sem.run_bind]at e|-;cases hs:s.run P w with
 |ok u w2=>
  rw[hs]at e;simp only[Result.andThen_ok]at e;rw[h w u w2 hs w'];simp only[Result.andThen_ok];exact k u w2 v w1 e w'
 |halt x w2=>
  simp_all
theorem WF.halt(x:Halt):WF P (.halt x:Sem α):=fun w v w1 e w' =>by simp_all
theorem WF.program:WF P program:=fun w v w1 e w' =>by
 simp_all
theorem WF.typeInfo(t:TypeId):WF P (typeInfo t):=WF.bind WF.program fun p=>by
 split
 ·exact WF.pure _
 ·exact WF.halt _
theorem WF.underlying(t:TypeId):WF P (underlying t):=WF.bind WF.program fun p=>by
 split
 ·exact WF.pure _
 ·exact WF.halt _
theorem WF.sizeOf(t:TypeId):WF P (Go.sizeOf t):=WF.bind (WF.typeInfo t) fun _=>WF.pure _
theorem WF.isAgg(t:TypeId):WF P (isAgg t):=WF.bind (WF.underlying t) fun d=>by
 grind[WF.pure]
theorem WF.zeroValue(t:TypeId):WF P (zeroValue t):=WF.bind (WF.typeInfo t) fun i=>by
 split
 ·exact WF.pure _
 ·exact WF.halt _
theorem WF.asIntOf(v:Value):WF P (asIntOf v):=by
 unfold Go.asIntOf;split
 ·exact WF.pure _
 ·exact WF.halt _
 ·exact WF.halt _
theorem WF.asBool(v:Value):WF P (asBool v):=by
 unfold Go.asBool;split
 ·exact WF.pure _
 ·exact WF.halt _
theorem WF.asAgg(v:Value):WF P (asAgg v):=by
 unfold Go.asAgg;split
 ·exact WF.pure _
 ·exact WF.halt _
theorem WF.sureAddr(v:Value):WF P (Instr.sureAddr v):=by
 unfold Instr.sureAddr;split
 ·exact WF.pure _
 ·exact WF.halt _
theorem WF.zK{s:Sem α}(h:∀w v w1,s.run P w≠ .ok v w1):WF P s:=fun w v w1 e=>absurd e (h w v w1)
theorem X8{s:Sem α}{f:α->Sem β}(h:∀x w v w1,(f x).run P w≠ .ok v w1):∀w v w1,(s >>= f).run P w≠ .ok v w1:=fun w v w1 e=>by
 rw[Sem.run_bind]at e;cases hs:s.run P w with
 |ok u w2=>simp_all
 |halt x w2=>simp_all
theorem jD(x:Halt):∀w v w1,(.halt x:Sem α).run P w≠ .ok v w1:=fun w v w1 e=>by simp_all
theorem oK(e:RuntimeError):∀w v w1,(runtimePanic e:Sem α).run P w≠ .ok v w1:=by
 unfold runtimePanic;refine X8 fun p=> ?_
 dsimp only;split<;>first
  |exact jD _
  |exact X8 fun _=>X8 fun _=>jD _
  |exact X8 fun _=>jD _
theorem WF.bounds(k:IntKind)(x y:Int)(c:BoundsCode):WF P (boundsPanic k x y c:Sem α):=WF.zK (by
 grind[boundsPanic,X8,oK])
theorem WF.part(t:TypeId)(cs:Array Value)(o:Nat):WF P (part t cs o):=WF.bind (WF.isAgg t) fun b=>by
 split
 ·grind[WF.bind,WF.sizeOf,WF.pure]
 ·split
  ·exact WF.pure _
  ·exact WF.halt _
theorem WF.field(t:TypeId)(x:Value)(f:Nat):WF P (Instr.field t x f):=WF.bind (WF.underlying t) fun d=>by
 split
 ·split
  ·grind[WF.bind,WF.asAgg,WF.part]
  ·exact WF.halt _
 ·exact WF.halt _
theorem WF.indexAt(t:TypeId)(x i:Value):WF P (Instr.indexAt t x i):=WF.bind (WF.asIntOf i) fun q=>by
 obtain⟨k,i⟩:=q;dsimp only;refine WF.bind (WF.underlying t) fun d=> ?_
 have rest:∀q:Option Addr×Nat×TypeId,WF P (do
   let d<-Go.underlying t
   match q.1 with
   |some a=>
    if 0<=i/\i<(q.2.1:Int)then do
     let s<-Go.sizeOf q.2.2
     Pure.pure (Value.pointer (some (a.add (i.toNat*s))))
    else if(decide (q.2.1<=1)&&(match d with| .array .. =>true|_=>false))=true then unsupported (.noEntry "op/indexAddr.an index out of range at an array of length 0 or 1 (ledger 616)")
    else boundsPanic k i q.2.1 .index
   |none=>boundsPanic k i 0 .index:Sem Value):=fun q=>by
  refine WF.bind (WF.underlying t) fun d=> ?_
  split
  ·split
   ·grind[WF.bind,WF.sizeOf,WF.pure]
   ·repeat' split
    all_goals first|exact WF.halt _|exact WF.bounds _ _ _ _
  grind[WF.bounds]
 split
 ·exact WF.bind (WF.sureAddr _) fun _=>WF.bind (WF.pure _) fun q=>rest q
 ·exact WF.bind (WF.pure _) fun q=>rest q
 ·exact WF.bind (WF.halt _) fun q=>rest q
theorem WF.index(t:TypeId)(x i:Value):WF P (Instr.index t x i):=WF.bind (WF.asIntOf i) fun q=>by
 obtain⟨k,i⟩:=q;dsimp only;refine WF.bind (WF.underlying t) fun d=> ?_
 split
 ·grind[WF.bind,WF.sizeOf,WF.part,WF.bounds]
 ·grind[WF.pure,WF.bounds]
 ·exact WF.halt _
theorem WF.extract(x:Value)(i:Nat):WF P (Instr.extract x i):=by
 unfold Instr.extract;split
 ·split
  ·exact WF.pure _
  ·exact WF.halt _
 ·exact WF.halt _
theorem WF.sliceBound(x:Value)(y:Nat)(c:BoundsCode):WF P (Instr.sliceBound x y c):=WF.bind (WF.asIntOf x) fun q=>by
 grind[WF.pure,WF.bounds]
theorem WF.sliceBounds(b:Bool)(len cap:Nat)(l h:Option Value):WF P (Instr.sliceBounds b len cap l h none):=by
 cases h with
 |none=>
  cases l with
  |none=>exact WF.bind (WF.pure _) fun _=>WF.bind (WF.pure _) fun _=>WF.bind (WF.pure _) fun _=>WF.pure _
  |some l=>exact WF.bind (WF.pure _) fun _=>WF.bind (WF.pure _) fun _=>WF.bind (WF.sliceBound _ _ _) fun _=>WF.pure _
 |some h=>
  cases l with
  |none=>exact WF.bind (WF.pure _) fun _=>WF.bind (WF.sliceBound _ _ _) fun _=>WF.bind (WF.pure _) fun _=>WF.pure _
  |some l=>exact WF.bind (WF.pure _) fun _=>WF.bind (WF.sliceBound _ _ _) fun _=>WF.bind (WF.sliceBound _ _ _) fun _=>WF.pure _
theorem WF.asAddr(v:Value):WF P (asAddr v):=by
 unfold Go.asAddr;split
 ·exact WF.pure _
 ·exact WF.zK (oK _)
 ·exact WF.halt _
theorem WF.slice(t:TypeId)(x:Value)(l h:Option Value):WF P (Instr.slice t x l h none):=WF.bind (WF.underlying t) fun d=>by
 split
 ·grind[WF.bind,WF.sliceBounds,WF.pure]
 ·grind[WF.bind,WF.sliceBounds,WF.sizeOf,WF.pure]
 ·refine WF.bind (WF.asAddr _) fun _=>WF.bind (WF.underlying _) fun d=> ?_
  split
  ·grind[WF.bind,WF.sliceBounds,WF.sizeOf,WF.pure]
  ·exact WF.halt _
 ·exact WF.halt _
theorem WF.sliceAt(t:TypeId)(x:Value)(l h:Option Value):WF P (Instr.sliceAt t x l h none):=WF.bind (WF.underlying t) fun d=>by
 grind[WF.bind,WF.sureAddr,WF.sliceBounds,WF.sizeOf,WF.pure,WF.slice]
theorem WF.ve{f:α->Sem β}(h:∀x,WF P (f x)):∀l:List α,WF P (l.mapM f)
 |[]=>WF.pure _
 |x::l=>by
  rw[ATf];exact WF.bind (h x) fun _=>WF.bind (WF.ve h l) fun _=>WF.pure _
theorem WF.mapM{f:α->Sem β}(h:∀x,WF P (f x))(a:Array α):WF P (a.mapM f):=by
 rw[Array.mapM_eq_mapM_toList,<-bind_pure_comp];grind[WF.bind,WF.ve,WF.pure]
theorem WF.build(t:TypeId)(ps:Array (Nat×Value)):WF P (Instr.build t ps):=WF.bind (WF.zeroValue t) fun z=>by
 refine WF.bind (WF.underlying t) fun d=> ?_
 split
 ·refine WF.bind (WF.mapM (fun f=>WF.bind (WF.sizeOf _) fun _=>WF.pure _) _) fun _=> ?_
  split
  ·exact WF.pure _
  ·exact WF.halt _
 ·refine WF.bind (WF.sizeOf _) fun _=> ?_
  split
  ·exact WF.pure _
  ·exact WF.halt _
 ·exact WF.halt _
end
end Go.Fw
end
section
namespace Go.Fw
def Kof(hint:AAc)(E:Env)(w:World)(bx:List Bx)(c:Nat):Prop:=E.T c\/ ∃n B,n∈hint/\bx[n]? =some B/\BRB E w n B c
def sb(K:Nat->Prop)(w w':World):Prop:= ∀c,K c->w'.heap[c]? =w.heap[c]?
theorem ACB{w:World}{B:Nat->Prop}:∀{p:List Xv} {r:Ty} {h:Value} {rows:List r.D} {q:Ty} {ys:List q.D} {bb o len cap i:Nat},Rd w B (.sl r) [h] rows->DC r rows p->Gu r rows p=some ⟨q,ys⟩->
  I1 w h p=some (.slice (some ⟨bb,o,none⟩) len cap)->i<ys.length->RB w (.sl r) [h] rows bb
 |[],r,h,rows,q,ys,bb,o,len,cap,i,hr,hp,hg,hh,hi=>by
  rw[Cv]at hh;cases hh;simp only[Gu,AJL,AK7]at hg;obtain⟨rfl,hg⟩:=hg;obtain rfl:=ANi hg;simp only[RB];grind
 |s::p,r,h,rows,q,ys,bb,o,len,cap,i,hr,hp,hg,hh,hi=>by
  simp only[DC]at hp;obtain⟨hsi,K8,hp⟩:=hp;simp only[Rd]at hr;obtain⟨a,cap',e1,_,hr⟩:=hr;obtain rfl:=(AO6 e1).1;rcases hr with hr|⟨b',o',rfl,hb,hr⟩
  ·omega
  obtain⟨cs,hl,hc,hrow⟩:=hr s.i _ (Rh hsi);simp only[Gu]at hg;split at hg
  case h_2=>cases hg
  rename_i q' x jN;rw[jN]at hp;dsimp only at hp;obtain⟨v,hv,hrv⟩:=gU hrow jN;have hcv:=hc _ _ hv;rw[<-K8]at hcv;simp only[I1,hcv]at hh;have:=ACB hrv hp hg hh hi;simp only[RB];refine⟨b',o',_,cap',rfl,by omega,.inr ⟨s.i,_,cs,Rh hsi,hl,hc,?_⟩⟩;clear hc hcv e1 hr;exact RB_cell hrow jN hv this
where
 RB_cell {w:World} {B:Nat->Prop} {c:Nat}:∀{r:Ty} {cs:List Value} {x:r.D} {j:Nat} {t:Ty} {y:t.D} {v:Value},Rd w B r cs x->BS r j x=some ⟨t,y⟩->cs[j]? =some v->RB w t [v] y c->RB w r cs x c
 | .cons c r,cs,x,0,t,y,v,h,e,hv,k=>by
  simp only[Rd]at h;obtain⟨u,l,rfl,h1,h2⟩:=h;simp only[BS,AJL,AK7]at e;obtain⟨rfl,e⟩:=e;obtain rfl:=ANi e;simp at hv;subst hv;simp only[RB];grind
 | .cons c r,cs,x,j+1,t,y,v,h,e,hv,k=>by
  simp only[Rd]at h;obtain⟨u,l,rfl,h1,h2⟩:=h;simp only[BS]at e;have:=RB_cell h2 e (by simp_all) k;simp only[RB];grind
 | .int k,cs,x,0,t,y,v,h,e,hv,k' =>by
  simp only[BS,AJL,AK7]at e;obtain⟨rfl,_⟩:=e;simp[RB]at k'
 | .bool,cs,x,0,t,y,v,h,e,hv,k' =>by
  simp only[BS,AJL,AK7]at e;obtain⟨rfl,_⟩:=e;simp[RB]at k'
 | .str,cs,x,0,t,y,v,h,e,hv,k' =>by
  simp only[BS,AJL,AK7]at e;obtain⟨rfl,_⟩:=e;simp[RB]at k'
 | .sl r,cs,x,0,t,y,v,h,e,hv,k=>by
  simp only[BS,AJL,AK7]at e;obtain⟨rfl,e⟩:=e;obtain rfl:=ANi e;have hl:=nB h;simp only[Ty.n]at hl;obtain⟨u,rfl⟩:=List.length_eq_one_iff.1 hl;simp_all
 | .unit,_,_,_,_,_,_,_,e,_,_=>by simp[BS]at e
 | .int _,_,_,_+1,_,_,_,_,e,_,_=>by simp[BS]at e
 | .bool,_,_,_+1,_,_,_,_,e,_,_=>by simp[BS]at e
 | .str,_,_,_+1,_,_,_,_,e,_,_=>by simp[BS]at e
 | .sl _,_,_,_+1,_,_,_,_,e,_,_=>by simp[BS]at e
section
variable{P:Program} {T:JR} (hT:ES P T) {E:Env} {w:World}
include hT
theorem vv{σ:St}{Fs:List AAc}(hB:NU E w σ.bx σ.bx Fs)(st:∀c,E.S c->E.T c){t:Nat}{x:AV}{z:XV}(e:oh T t σ (.c x)=some z){v:Value}(hx:VR E w σ.bx x v):
  ∃bb oo u y,v= .pointer (some ⟨bb,oo,none⟩)/\Jk σ.bx x 0=some y/\XR E w σ.bx z u/\ ∀w',w'.heap[bb]? =w.heap[bb]?->(Instr.loadAt t v).run P w' = .ok u w':=by
 unfold oh at e;split at e
 case h_2=>cases e
 rename_i x' ti tW V9;cases tW;split at e
 case isTrue=>cases e
 rename_i K8;have ld:=fun w=>ES.isAgg hT V9 w
 split at e
 ·rename_i ha
  simp only[AJN]at e;obtain⟨l,hl,rfl⟩:=e;obtain⟨h1,h2⟩:=cf hl;have h0:0<l.length:=by omega
  obtain⟨b,o,u,hv,_,_⟩:=Lx hB st (h2 0 _ (AJA h0)) hx;obtain⟨cs,c1,c2,c3⟩:=fK hB st hx hv (l:=l) (j:=0) (fun i y hy=>by simp_all);subst hv;have lT:=(hT t ti V9).und;cases hd:ti.desc with
  |st fs=>
   rw[hd]at lT;obtain⟨fields,hu,_⟩:=lT;refine⟨b,o,.agg cs.toArray,_,rfl,by simpa using h2 0 _ (AJA h0),⟨cs.toArray,rfl,by omega⟩,fun w' hw=>run_loadAt_mid w' b o t cs _ (by have:=c2.of_block hw;grind[Be,World.rangeAt]) hu rfl ?_⟩;grind[ES.size]
  |_=>grind[TD.agg]
 ·rename_i ha
  simp only[AMH]at ha;simp only[AJN]at e;obtain⟨y,hy,rfl⟩:=e;obtain⟨b,o,u,hv,hc,hr⟩:=Lx hB st hy hx;subst hv;refine⟨b,o,u,y,rfl,hy,hr,fun w' hw=> ?_⟩;have AKM:=ld w';rw[ha]at AKM;simp only[APL]at hc;have eY:w'.cell? ⟨b,o,none⟩=some u:=by grind[World.cell?_of_block]
  simp[Instr.loadAt,Instr.sureAddr,loadVar,AKM,eY]
end
theorem yg{E E':Env}{w w':World}{vw vw':List Bx}{t:Ty}{x:t.D}{v:Value}(h:VR E w vw (.v t x) v):VR E' w' vw' (.v t x) v:=by
 obtain⟨h1,h2⟩:=h;refine⟨h1,?_⟩;cases t<;>simp_all[Ty.scalar,Rd]
theorem lG{E E':Env}{w w':World}{vw vw':List Bx}{t:Ty}{x:t.D}{v u:Value}(h:VR E w vw (.v t x) v)(k:VR E' w' vw' (.v t x) u):v=u:=by
 obtain⟨h1,h2⟩:=h;obtain⟨_,k2⟩:=k;cases t<;>simp_all[Ty.scalar,Rd]
def nL(x:XV):Prop:=(∃t z,x= .c (.v t z))\/(∃l,x= .agg l/\ ∀c∈l,∃t z,c= .v t z)
theorem Mj{E E':Env}{w w':World}{vw vw':List Bx}{x:XV}{v:Value}(hp:nL x)(h:XR E w vw x v):XR E' w' vw' x v:=by
 rcases hp with⟨t,z,rfl⟩|⟨l,rfl,hl⟩
 ·exact yg (E:=E) (w:=w) (vw:=vw) (E':=E') (w':=w') (vw':=vw') h
 ·obtain⟨vs,rfl,WN⟩:=h
  refine⟨vs,rfl,?_⟩
  generalize vs.toList=m at WN
  induction l generalizing m with
  |nil=>cases m with
   |nil=>trivial
   |cons _ _=>exact WN.elim
  |cons c l ih=>cases m with
   |nil=>exact WN.elim
   |cons u m=>
    obtain⟨t,z,rfl⟩:=hl c (by simp);exact⟨yg WN.1,ih (fun c hc=>hl c (by simp[hc])) m WN.2⟩
theorem xY{d:TD}{x z:AV}{p:Bool}(e:rK d x z=some p):(∃t y,x= .v t y)/\ ∃t y,z= .v t y:=by
 unfold rK at e;grind
theorem ai{T:JR}:∀{i:Nat} {fs:List ACk} {l m:List AV} {r:Bool},LC T i fs l m=some r->(∀c∈l,∃t z,c= .v t z)/\ ∀c∈m,∃t z,c= .v t z
 |i,[],[],[],r,e=>by simp
 |i,(o,t)::fs,x::l,z::m,r,e=>by
  simp only[LC]at e;split at e
  case isFalse=>cases e
  split at e
  case h_2=>cases e
  split at e
  case h_2=>cases e
  rename_i p hp;simp only[AJN]at e;obtain⟨r',e1,_⟩:=e;obtain⟨a1,a2⟩:=xY hp;obtain⟨b1,b2⟩:=ai e1;simp_all
 |_,[],[],_::_,_,e=>by simp[LC]at e
 |_,[],_::_,_,_,e=>by simp[LC]at e
 |_,_::_,[],_,_,e=>by simp[LC]at e
 |_,_::_,_::_,[],_,e=>by simp[LC]at e
theorem AHb{op:BinOp}{κ:IntKind}{a b:Int}{r:AV}(e:iM op κ a b some=some r):∃t x,r= .v t x:=by
 cases op<;>simp only[iM,AJL]at e<;>first
  |exact⟨_,_,e.symm⟩
  |(grind)
  |cases e
theorem AD0{op:BinOp}{κ:IntKind}{a b:Int}{r:AV}(e:Zz op κ a b some=some r):∃t x,r= .v t x:=by
 unfold Zz at e;grind
theorem AIF{op:BinOp}{a b:AAZ}{r:AV}(e:lI op a b some=some r):∃t x,r= .v t x:=by
 cases op<;>simp only[lI,AJL]at e<;>first
  |exact⟨_,_,e.symm⟩
  |(
   split at e
   all_goals grind)
  |cases e
theorem AMJ{T:JR}{t:Nat}{op:BinOp}{a b:XV}{r:AV}(e:yQ T t op a b some=some r):(∃t x,r= .v t x)/\nL a/\nL b:=by
 unfold yQ at e;split at e
 ·refine⟨?_,.inl ⟨_,_,rfl⟩,.inl ⟨_,_,rfl⟩⟩
  grind[AD0,AHb]
 ·exact⟨AIF e,.inl ⟨_,_,rfl⟩,.inl ⟨_,_,rfl⟩⟩
 ·refine⟨?_,.inl ⟨_,_,rfl⟩,.inl ⟨_,_,rfl⟩⟩
  grind
 ·split at e
  ·rename_i hq
   rw[AJa]at hq;obtain⟨fs,_,hq⟩:=hq;obtain⟨q1,q2⟩:=ai hq;cases e;exact⟨⟨_,_,rfl⟩,.inr ⟨_,rfl,q1⟩,.inr ⟨_,rfl,q2⟩⟩
  ·rename_i hq
   rw[AJa]at hq;obtain⟨fs,_,hq⟩:=hq;obtain⟨q1,q2⟩:=ai hq;cases e;exact⟨⟨_,_,rfl⟩,.inr ⟨_,rfl,q1⟩,.inr ⟨_,rfl,q2⟩⟩
  simp_all
 simp_all
theorem AG6{g:Bool}{a b:XV}{r:AV}(e:wR g a b some=some r):(∃t x,r= .v t x)/\nL a/\nL b:=by
 unfold wR at e;split at e
 ·refine⟨?_,.inl ⟨_,_,rfl⟩,.inl ⟨_,_,rfl⟩⟩
  grind
 simp_all
theorem ASu{op:UnOp}{a:XV}{r:AV}(e:unX op a some=some r):(∃t x,r= .v t x)/\nL a:=by
 unfold unX at e;split at e
 ·cases e;exact⟨⟨_,_,rfl⟩,.inl ⟨_,_,rfl⟩⟩
 ·cases e;exact⟨⟨_,_,rfl⟩,.inl ⟨_,_,rfl⟩⟩
 simp_all
section
variable{Y:Type} {P:Program} {T:JR} (hT:ES P T) {Γ:Nat->Option Qv} {o:Oper} {E:Env} {σ:St} {a:Act} {w:World} {k:K Y} {y:Y}
include hT
theorem ADc(h:Rel E σ a w){t:TypeId}(ps:Array (Nat×Operand)){s b:Nat}{fs:List ACk}{rw:Option Ty}(V9:T.get t=some ⟨s,b,.st fs,rw⟩){r:Ty}(hr:T.kp t=some r)
  {cs:List AV} (hb:jO T fs (cg r) (ps.toList.map fun q=>(q.1,σ.ev q.2))=some cs):
  ∃KT,(∀w',(Instr.build t (ps.map fun(i,x)=>(i,a.eval x))).run P w' = .ok (.agg KT) w')/\jy E w σ.bx cs KT.toList:=by
 obtain⟨i,z,h1,h2,h3,_⟩:=row_zero hT hr;obtain⟨fields,hu,hfs,K8⟩:=AI2 hT V9;obtain⟨KT,f1,f2⟩:=ck hT (rJ h ps) (arr:=z.cells) (by grind[ZV]) hb;refine⟨KT,fun w' => ?_,f2⟩;have hb:P.built t (ps.map fun(i,x)=>(i,a.eval x)).toList=some KT:=by
  unfold Program.built;simp only[h1,hu,h2];have hm:fields.toList.mapM (fun f=>(P.info? f.type).map fun i=>(f.offset,i.size))=some (fields.toList.map fun f=>(f.offset,((P.info? f.type).map (·.size)).getD 0)):=by
   grind[rO]
  simp only[hm];rw[<-f1];congr 1;funext n;subst hfs;simp only[List.getElem?_toArray,ANd];cases hn:fields.toList[n]? with
  |none=>simp
  |some f=>
   obtain⟨i',D7,_⟩:=K8 f (ALA hn);simp[D7]
 grind[run_build]
theorem ABx{hint:AAc}(h:Rel E σ a w)(hq:lE hint σ o.op=true)(e:ZC T Γ o σ k=some y):
  ∃v x,XR E w σ.bx x v/\k x σ=some y/\ ∀w',sb (Kof hint E w σ.bx) w w'->(execOp a.eval o).run P w' = .ok (.value v) w':=by
 obtain⟨Fs,hB,hS⟩:=h.bx;have st:=hS.st;have wf:∀{s:Sem Value} {v:Value},WF P s->s.run P w= .ok v w-> ∀w',s.run P w' = .ok v w':=fun h1 h2 w' =>h1 w _ w h2 w'
 unfold ZC at e;split at e
 ·rename_i x ho
  exact⟨a.eval x,_,h.ev x,e,fun w' _=>by grind[execOp,Sem.run_pure]⟩
 ·rename_i x ho
  unfold cj at e;split at e
  ·grind[lE]
  ·exact⟨a.eval x,_,h.ev x,e,fun w' _=>by grind[execOp,Sem.run_pure]⟩
 ·rename_i c xa xb ho
  split at e
  case h_2=>cases e
  rename_i p hp;have hc:=h.ev c;rw[hp]at hc;have eY:=TT (E:=E) (w:=w) (vw:=σ.bx) hc;refine⟨if p then a.eval xa else a.eval xb,if p then σ.ev xa else σ.ev xb,by cases p<;>simp[h.ev],by grind[AF5],fun w' _=>by simp[execOp,ho,eY,asBool]⟩
 ·rename_i t ho;rw[ho]at hq;cases hq
 ·rename_i t x ho;rw[ho]at hq;cases hq
 ·rename_i t ps ho
  split at e
  case h_2=>cases e
  rename_i s b fs rw r V9 hr;split at e
  case h_2=>cases e
  rename_i cs yc;obtain⟨KT,h1,h2⟩:=ADc hT h ps V9 hr yc;exact⟨.agg KT,.agg cs,⟨KT,rfl,h2⟩,e,fun w' _=>by grind[execOp,Sem.run_bind,Result.andThen_ok,Sem.run_pure]⟩
 ·rename_i t n ps ho;rw[ho]at hq;cases hq
 ·rename_i t x ho
  rw[ho]at hq;split at e
  case h_2=>cases e
  rename_i z hz;have hv:=h.ev x;simp only[lE]at hq
  generalize hX:σ.ev x=X at hq hv hz
  cases X with
  |agg l=>cases hq
  |MA l=>cases hq
  |c ad=>
   obtain⟨bb,oo,u,cell,hp,hc,h2,h3⟩:=vv hT hB st hz hv;refine⟨u,z,h2,e,fun w' oR=> ?_⟩;have hbb:w'.heap[bb]? =w.heap[bb]?:=by
    refine oR bb ?_
    have aG:VR E w σ.bx ad (a.eval x):=hv;cases ad with
    |IX b j=>
     simp only[jL,APu]at hq;simp only[Jk]at hc;split at hc
     ·rename_i cs hb
      refine .inr ⟨b,_,hq,hb,?_⟩;have:=aG.2;rw[hp]at this;simp only[Value.pointer.injEq,AJL,Addr.mk.injEq]at this;exact this.1
     simp_all
    |Js b p i sz j=>
     simp only[jL,APu]at hq;simp only[Jk]at hc;split at hc
     ·rename_i d q rows hb
      refine .inr ⟨b,_,hq,hb,?_⟩;simp only[VR,hb]at aG;obtain⟨_,hpp,q1,ys,b2,o2,len,cap,g1,g2,g3,g4⟩:=aG;rw[hp]at g4;simp only[Value.pointer.injEq,AJL,Addr.mk.injEq]at g4;obtain⟨rfl,_⟩:=g4;obtain⟨F,⟨_,ho2⟩,_⟩:=hB.get hb;exact ACB (ZJ ho2) hpp g1 g3 g2
     simp_all
    |Pv s r z j=>
     obtain⟨b2,o2,cs,g1,g2,_⟩:=aG;rw[hp]at g1;simp only[Value.pointer.injEq,AJL,Addr.mk.injEq]at g1;obtain⟨rfl,_⟩:=g1
     left
     grind
    |_=>cases hq
   grind[execOp,Sem.run_bind,Result.andThen_ok,Sem.run_pure]
 ·rename_i t xa xx ho;rw[ho]at hq;cases hq
 ·rename_i x ho
  have hx:=h.ev x;split at e
  ·rename_i b j hp
   rw[hp]at hx;have tW:b<σ.bx.length/\a.eval x= .pointer (some ⟨E.Hg b,j,none⟩):=hx;grind[execOp,Sem.run_pure]
  ·rename_i b p i sz j hp
   rw[hp]at hx;have hpt:eM (a.eval x)=true:=hx.1;grind[eM,execOp,Sem.run_pure]
  ·rename_i s r z j hp
   rw[hp]at hx;obtain⟨bb,oo,cs,hv,hrest⟩:=hx;exact⟨a.eval x,.c (.Pv s r z j),⟨bb,oo,cs,hv,hrest⟩,e,fun w' _=>by grind[execOp,Sem.run_pure]⟩
  ·rename_i f Ka hp
   rw[hp]at hx;have tW:(∀b∈Ka,b<σ.bx.length)/\a.eval x= .func (.func f) #[] (Ka.map fun b=>Value.pointer (some ⟨E.Hg b,0,none⟩)).toArray:=hx;grind[execOp,Sem.run_pure]
  simp_all
 ·rename_i op t x z s ho
  rw[r6,AJa]at e;obtain⟨r,e1,e⟩:=e;obtain⟨⟨t',x',rfl⟩,p1,p2⟩:=AMJ e1;obtain⟨r0,val,h1,h2,h3⟩:=ja hT e1 (h.ev x) (h.ev z) x z;cases h1;refine⟨val,.c (.v t' x'),h3,e,fun w' _=> ?_⟩;obtain⟨r1,val',g1,g2,g3⟩:=ja hT e1 (Mj (E':=E) (w':=w') (vw':=σ.bx) p1 (h.ev x)) (Mj p2 (h.ev z)) x z;cases g1;have:=lG h3 g3;subst this;simp only[execOp,ho,Sem.run_bind];simp_all
 ·rename_i op t x ho
  rw[wS,AJa]at e;obtain⟨r,e1,e⟩:=e;obtain⟨⟨t',x',rfl⟩,p1⟩:=ASu e1;obtain⟨r0,val,h1,h2,h3⟩:=nj (P:=P) e1 (h.ev x);cases h1;refine⟨val,.c (.v t' x'),h3,e,fun w' _=> ?_⟩;obtain⟨r1,val',g1,g2,g3⟩:=nj (P:=P) e1 (Mj (E':=E) (w':=w') (vw':=σ.bx) p1 (h.ev x));grind[lG,execOp,Sem.run_bind,Result.andThen_ok,Sem.run_pure]
 ·rename_i s d x ho;rw[ho]at hq;cases hq
 ·rename_i f first Ka ho;rw[ho]at hq;cases hq
 ·rename_i t l c ho;rw[ho]at hq;cases hq
 ·rename_i t x lo hi ho
  obtain⟨z,val,h1,h2,h3⟩:=kD hT hB st e (h.ev x) (ACC h lo) (ACC h hi);exact⟨val,z,h3,h1,fun w' _=>by simp only[execOp,ho,Option.map_none,Sem.run_bind,wf (WF.sliceAt _ _ _ _) h2 w',Result.andThen_ok,Sem.run_pure]⟩
 ·rename_i t x f ho
  split at e
  case h_2=>cases e
  rename_i z hz;obtain⟨u,h1,h2⟩:=lY hT hz (h.ev x);refine⟨u,z,h2,e,fun w' _=> ?_⟩;have hw:(Instr.fieldAt t (a.eval x) f).run P w' = .ok u w':=by
   have hx:=h.ev x;unfold wO at hz;split at hz
   case h_2=>cases hz
   rename_i s b fs _ V9;split at hz
   case h_2=>cases hz
   rename_i o' u' hf;have key:∀ad,a.eval x= .pointer (some ad)->(Instr.fieldAt t (a.eval x) f).run P w' = .ok u w':=by
    intro ad had;rw[had]at h1|-;have r1:=V2 hT (w:=w) V9 hf (a:=ad);grind[V2]
   split at hz
   ·rename_i b' j hp
    rw[hp]at hx;exact key _ hx.2
   ·rename_i b' p i sz j hp
    rw[hp]at hx;have hpt:eM (a.eval x)=true:=hx.1;unfold eM at hpt;grind
   ·rename_i s r y' j hp
    rw[hp]at hx;obtain⟨bb,oo,cs,hv,_⟩:=hx;simp_all
   simp_all
  grind[execOp,Sem.run_bind,Result.andThen_ok,Sem.run_pure]
 ·rename_i t x f ho
  split at e
  case h_2=>cases e
  rename_i z hz;obtain⟨u,h1,h2⟩:=oI hT hz (h.ev x);exact⟨u,z,h2,e,fun w' _=>by simp only[execOp,ho,Sem.run_bind,wf (WF.field _ _ _) h1 w',Result.andThen_ok,Sem.run_pure]⟩
 ·rename_i t x i ho
  obtain⟨z,val,h1,h2,h3⟩:=kb hT hB st e (h.ev x) (h.ev i);exact⟨val,z,h3,h1,fun w' _=>by simp only[execOp,ho,Sem.run_bind,wf (WF.indexAt _ _ _) h2 w',Result.andThen_ok,Sem.run_pure]⟩
 ·rename_i t x i ho
  obtain⟨z,val,h1,h2,h3⟩:=eR hT e (h.ev x) (h.ev i);exact⟨val,z,h3,h1,fun w' _=>by simp only[execOp,ho,Sem.run_bind,wf (WF.index _ _ _) h2 w',Result.andThen_ok,Sem.run_pure]⟩
 ·rename_i x i ho
  split at e
  case h_2=>cases e
  rename_i z hz;obtain⟨u,h1,h2⟩:=fI (P:=P) hz (h.ev x);exact⟨u,z,h2,e,fun w' _=>by simp only[execOp,ho,Sem.run_bind,wf (WF.extract _ _) h1 w',Result.andThen_ok,Sem.run_pure]⟩
 ·rename_i f args uZ ho;rw[ho]at hq;cases hq
 ·rename_i args uZ ho
  split at e
  ·rename_i s t IV hts
   obtain⟨x,rfl,hx⟩:=Yn IV;have hv:=h.ev x;rw[hx]at hv;have aG:=YY (E:=E) (w:=w) (vw:=σ.bx) hv;split at e
   case isFalse=>cases e
   rename_i hs;have hu:=YI hT hs;refine⟨.int .i64 (s.length:Int),.c (.v (.int .i64) (s.length:Int)),VR.int (E:=E) (vw:=σ.bx) _ _,e,fun w' _=> ?_⟩;have K8:(⟨s.toArray⟩:ByteArray).size=s.length:=by rfl
   simp[execOp,ho,resolve,invoke,builtin,Builtin.len_,hts,aG,Bb hu,goInt,K8]
  ·rename_i z t _ IV hts
   obtain⟨x,rfl,hx⟩:=Yn IV;have hv:=h.ev x;rw[hx]at hv;split at e
   case isFalse=>cases e
   rename_i hs;split at e
   case h_2=>cases e
   rename_i n hn;obtain⟨el,hu⟩:=mN hT hs;obtain⟨ad,cap,aG⟩:=oL hB st hn hv;refine⟨.int .i64 (n:Int),.c (.v (.int .i64) (n:Int)),VR.int (E:=E) (vw:=σ.bx) _ _,e,fun w' _=> ?_⟩;simp[execOp,ho,resolve,invoke,builtin,Builtin.len_,hts,aG,Bb hu,goInt]
  simp_all
 ·rename_i args uZ ho;rw[ho]at hq;cases hq
 ·rename_i args uZ ho;rw[ho]at hq;cases hq
 ·rename_i args uZ ho
  split at e
  case h_2=>cases e
  rename_i x1 x2 IV;obtain⟨o1,o2,rfl,hx1,hx2⟩:=Y_ IV;have eE:=h.ev o1;have bu:=h.ev o2;rw[hx1]at eE;rw[hx2]at bu;rw[bm,AJa]at e;obtain⟨r,e1,e⟩:=e;obtain⟨⟨t',x',rfl⟩,p1,p2⟩:=AG6 e1;obtain⟨r0,val,h1,h2,h3⟩:=Ug (P:=P) (big:=true) e1 eE bu uZ #[] o.type;cases h1;refine⟨val,.c (.v t' x'),h3,e,fun w' _=> ?_⟩;obtain⟨r1,val',g1,g2,g3⟩:=Ug (P:=P) (big:=true) e1 (Mj (E':=E) (w':=w') (vw':=σ.bx) p1 eE) (Mj p2 bu) uZ #[] o.type;cases g1;have:=lG h3 g3;subst this;simp only[AOx]at g2;simp[execOp,ho,resolve,invoke,builtin,g2]
 ·rename_i args uZ ho
  split at e
  case h_2=>cases e
  rename_i x1 x2 IV;obtain⟨o1,o2,rfl,hx1,hx2⟩:=Y_ IV;have eE:=h.ev o1;have bu:=h.ev o2;rw[hx1]at eE;rw[hx2]at bu;rw[bm,AJa]at e;obtain⟨r,e1,e⟩:=e;obtain⟨⟨t',x',rfl⟩,p1,p2⟩:=AG6 e1;obtain⟨r0,val,h1,h2,h3⟩:=Ug (P:=P) (big:=false) e1 eE bu uZ #[] o.type;cases h1;refine⟨val,.c (.v t' x'),h3,e,fun w' _=> ?_⟩;obtain⟨r1,val',g1,g2,g3⟩:=Ug (P:=P) (big:=false) e1 (Mj (E':=E) (w':=w') (vw':=σ.bx) p1 eE) (Mj p2 bu) uZ #[] o.type;cases g1;have:=lG h3 g3;subst this;simp only[AJn,AMd]at g2;simp[execOp,ho,resolve,invoke,builtin,g2]
 simp_all
end
end Go.Fw
end
section
namespace Go.Fw
section
variable{P:Program} {md:Region.Mode} {ops:Array Oper} {Q:Exit->Act->World->Prop}
theorem sb.refl(K:Nat->Prop)(w:World):sb K w w:=fun _ _=>rfl
def zS(P:Program)(md:Region.Mode)(ops:Array Oper)(Q:Exit->Act->World->Prop):Nat->Array Bool->(Nat->Prop)->Act->World->Prop
 |0,listed,_,a,w=>Region.ready md ops listed=[]/\Q .normal a w
 |fuel+1,listed,K,a,w=>(Region.ready md ops listed=[]->Q .normal a w)/\
  ∀i∈Region.ready md ops listed,wpOp P ops Q i (fun a' w' => ∃K':Nat->Prop,(∀c,K c->K' c)/\sb K w w'/\zS P md ops Q fuel (listed.setIfInBounds i true) K' a' w') a w
theorem v7:∀(fuel:Nat) (listed:Array Bool) (K:Nat->Prop) (a:Act) (w:World),zS P md ops Q fuel listed K a w->wpAny P md ops Q fuel listed a w
 |0,_,_,_,_,h=>h
 |fuel+1,_,_,_,_,h=>⟨h.1,fun i hi=>wpOp_mono (fun a' w' ⟨K',_,_,h'⟩=>v7 fuel _ K' a' w' h') (h.2 i hi)⟩
theorem YieldsIf.mono{S S':World->Prop}{o:Oper}{v:Value}{a:Act}(h:YieldsIf P ops S o v a)(hs:∀w,S' w->S w):YieldsIf P ops S' o v a:=
 h.imp (fun⟨h1,h2⟩=>⟨h1,fun w hw=>h2 w (hs w hw)⟩) id
theorem oD{i:Nat}{oi:Oper}{v:Value}(hi:ops[i]? =some oi)(AGk:∀(j:Nat) (o:Oper) cs b,ops[j]? =some o->o.op≠ .select cs b)(hQ:∀c a w,¬Q (.panic c) a w):
  ∀(fuel:Nat) (listed:Array Bool) (K:Nat->Prop) (a:Act) (w:World),
   (∀j oj,ops[j]? =some oj->j≠i->listed.getD j true=false->(∀e∈oj.after,Region.binds md e=true->e.on≠i)->oi.apart ops oj=true)->
   i∈Region.ready md ops listed->YieldsIf P ops (sb K w) oi v a->zS P md ops Q fuel (listed.setIfInBounds i true) K (a.put oi.dst v) w->zS P md ops Q (fuel+1) listed K a w:=by
 intro fuel
 induction fuel with
 |zero=>
  intro listed K a w _ hr hy H;refine⟨fun h=>(by simp_all),fun j hj=> ?_⟩;by_cases hji:j=i
  ·subst hji;exact hy.wpOp hi (sb.refl K w) ⟨K,fun _ h=>h,sb.refl K w,H⟩
  ·have:=ready_mono hj hji
   rw[H.1]at this;cases this
 |succ fuel ih=>
  intro listed K a w Tb hr hy H;refine⟨fun h=>(by simp_all),fun j hj=> ?_⟩;by_cases hji:j=i
  ·subst hji;exact hy.wpOp hi (sb.refl K w) ⟨K,fun _ h=>h,sb.refl K w,H⟩
  ·have h1:=H.2 j (ready_mono hj hji)
   obtain⟨hjun,oj,hoj,X0⟩:=mem_ready.1 hj;have ASx:∀e∈oj.after,Region.binds md e=true->e.on≠i:=fun e he hb heq=>by
    grind[mem_ready,Nat.lt_or_ge,Array.getElem?_eq_none]
   have h2:=wpOp_putIf hoj (Tb j oj hoj hji hjun ASx) (fun cs b=>AGk i oi cs b hi) (fun cs b=>AGk j oj cs b hoj) (fun c a w h=>absurd h (hQ c _ w)) hy h1;have AMP:∀k ok,ops[k]? =some ok->k≠i->(listed.setIfInBounds j true).getD k true=false->
     (∀e∈ok.after,Region.binds md e=true->e.on≠i)->oi.apart ops ok=true:=fun k ok hk hki hun hno=>by
    refine Tb k ok hk hki ?_ hno
    by_cases hjk:j=k
    all_goals simp_all
   refine wpOp_mono (fun a' w' h3=> ?_) h2;obtain⟨hy',K',hK,hs,ht⟩:=h3;refine⟨K',hK,hs,ih (listed.setIfInBounds j true) K' a' w' AMP (ready_mono hr (Ne.symm hji)) (YieldsIf.mono hy' fun w'' AUC c hc=>(AUC c (hK c hc)).trans (hs c hc)) ?_⟩;grind[Array.setIfInBounds_comm]
end
theorem oQ{Y:Type}{f:Nat->List Bool->Option Y}{y:Y}:∀{rs:AAc},(∀ω,wP f rs ω=some y)-> ∀i∈rs,∀ω,f i ω=some y
 |[i],h,j,hj,ω=>by
  simp at hj;subst hj;exact h ω
 |i::j::r,h,k,hk,ω=>by
  rcases ALa.1 hk with rfl|hk
  ·exact h (true::ω)
  ·exact oQ (rs:=j::r) (fun ω=>h (false::ω)) k hk ω
theorem xw{σ:St}{t:Nat}{b:Bool}(e:σ.tm[t]? =some (.c (.v .bool b))):σ.put (some t) (.c (.v .bool b))=σ:=by
 simp only[St.put];obtain⟨tm,bx⟩:=σ;simp only[St.mk.injEq,AO1];obtain⟨IQ,he⟩:=AJM.1 e;apply ASB;grind
theorem vI{Y I:Type}[Nonempty I]{C:cQ}{ops:Array Oper}{o:Oper}{kn:I->St->Option Y}{σ:St}{y:Y}{E:Env}{a:Act}{w:World}(h:Rel E σ a w)
  (e:∀ω,ACx C ops o (kn ω) σ=some y):
  (Region.wanted o (yielded ops a.tmps)=true/\ ∀ω,(ZC C.T C.Γ o σ fun x σ' =>kn ω (σ'.put o.dst x))=some y)\/
  (Region.wanted o (yielded ops a.tmps)=false/\ ∀ω,kn ω (σ.put o.dst (.MA []))=some y):=by
 unfold ACx at e;cases hg:o.guard with
 |none=>
  simp only[hg]at e;grind[Region.wanted]
 |some q=>
  obtain⟨j,want⟩:=q;simp only[hg]at e;cases ht:(ops[j]?).bind (·.dst)with
  |none=>
   simp_all
  |some t=>
   simp only[ht]at e;obtain⟨i0⟩:= ‹Nonempty I›;have e0:=e i0;split at e0
   ·rename_i b hb
    simp only[hb]at e;obtain⟨v,hv,hx⟩:=h.tmp hb;have hvb:=TT (E:=E) (w:=w) (vw:=σ.bx) hx;subst hvb;have hy:yielded ops a.tmps j=some b:=by rw[cx ht hv];rfl
    have hk:=xw hb;cases b with
    |true=>
     simp only[AJy,tt,hk]at e;cases want with
     |true=>grind[Region.wanted]
     |false=>grind[Region.wanted]
    |false=>
     simp only[AJQ,ff,hk]at e;cases want with
     |true=>grind[Region.wanted]
     |false=>grind[Region.wanted]
   ·rename_i hb
    simp only[hb]at e;obtain⟨v,hv,vs,rfl,hx⟩:=h.tmp hb;grind[yielded,cx,Region.wanted]
   simp_all
theorem AHG{ops:Array Oper}{o:Oper}{σ:St}{E:Env}{a:Act}{w:World}(h:Rel E σ a w)(e:idle ops σ o=true):Region.wanted o (yielded ops a.tmps)=false:=by
 unfold idle at e;cases hg:o.guard with
 |none=>simp_all
 |some q=>
  obtain⟨j,want⟩:=q;simp only[hg]at e;cases ht:(ops[j]?).bind (·.dst)with
  |none=>simp_all
  |some t=>
   simp only[ht]at e;split at e
   ·rename_i b hb
    obtain⟨v,hv,hx⟩:=h.tmp hb;have hvb:=TT (E:=E) (w:=w) (vw:=σ.bx) hx;grind[yielded,cx,Region.wanted]
   ·rename_i hb
    obtain⟨v,hv,vs,rfl,hx⟩:=h.tmp hb;grind[yielded,cx,Region.wanted]
   simp_all
theorem vp{Y I:Type}[Nonempty I]{C:cQ}{ops:Array Oper}{i:Nat}{o:Oper}(ho:ops[i]? =some o){kn:I->St->Option Y}{σ:St}{y:Y}{E:Env}{a:Act}{w:World}(h:Rel E σ a w)
  (e:∀ω,ACt C ops i (kn ω) σ=some y):
  (Region.wanted o (yielded ops a.tmps)=true/\ ∀ω,(ZC C.T C.Γ o σ fun x σ' =>kn ω (σ'.put o.dst x))=some y)\/
  (Region.wanted o (yielded ops a.tmps)=false/\ ∀ω,kn ω (σ.put o.dst (.MA []))=some y):=
 vI h fun ω=>by
  have:=e ω;unfold ACt at this;simpa only[ho]using this
theorem AEt{hint t:AAc}{E E':Env}{bx RF:List Bx}{w w':World}(h:Rx t E bx w E' RF w')(ht:∀b∈t,b∉hint)(ha:∀b∈hint,ly RF b=false):
  (∀c,Kof hint E w bx c->Kof hint E' w' RF c)/\sb (Kof hint E w bx) w w':=by
 have key:∀n B,n∈hint->bx[n]? =some B-> ∃B',RF[n]? =some B'/\WQ B B'/\ ∀c,BRB E w n B c->w'.heap[c]? =w.heap[c]?:=by
  intro n B hn hB;have hd:=ha n hn;unfold ly at hd;split at hd
  ·cases hd
  ·rename_i B' WJ Ti
   obtain⟨h1,h2⟩:=h.frame n B B' (fun hm=>ht n hm hn) hB Ti WJ;simp_all
  simp_all
 refine⟨fun c hc=> ?_,fun c hc=> ?_⟩
 ·rcases hc with hc|⟨n,B,hn,hB,hc⟩
  ·exact .inl (h.base.T c hc)
  ·obtain⟨B',Ti,hs,hh⟩:=key n B hn hB
   have hid:=h.ids n (AJM.1 hB).1;refine .inr ⟨n,B',hn,Ti,?_⟩;cases B with
   |mem cs=>
    cases B' with
    |mem gF=>grind[BRB]
    |sl _ _ _=>exact hs.elim
    |dead=>exact hs.elim
   |sl d r rows=>
    cases B' with
    |mem gF=>exact hs.elim
    |dead=>exact hs.elim
    |sl d' r' rows' =>
     simp only[WQ,AK7]at hs;obtain⟨rfl,hs⟩:=hs;obtain rfl:=ANi hs;grind[BRB,qT]
   |dead=>exact hc.elim
 ·rcases hc with hc|⟨n,B,hn,hB,hc⟩
  ·exact h.base.heap c hc
  grind
theorem bF{Y:Type}{C:cQ}{hint:AAc}{ops:Array Oper}{kn:List Bool->St->Option Y}{fuel:Nat}{listed:Array Bool}{ω:List Bool}{σ:St}{y:Y}(e:U3 C hint ops kn fuel listed ω σ=some y):∀b∈hint,ly σ.bx b=false:=by
 grind[U3,List.all_eq_true]
theorem we{Y:Type}{P:Program}{C:cQ}(hT:ES P C.T)(hΓ:jT P C.Γ){E0:Env}{w0:World}{N nb:Nat}{hint:AAc}{ops:Array Oper}{kn:List Bool->St->Option Y}{y:Y}{Q:Exit->Act->World->Prop}
  (AGk:Region.noSelect ops=true) (hP:∀c a w,¬Q (.panic c) a w) (hk:∀E σ a w,Ok E0 w0 N nb E σ a w->(∀ω,kn ω σ=some y)->Q .normal a w):
  ∀(fuel:Nat) {listed:Array Bool} {E:Env} {σ:St} {a:Act} {w:World},Ok E0 w0 N nb E σ a w->(∀ω,U3 C hint ops kn fuel listed ω σ=some y)->zS P .any ops Q fuel listed (Kof hint E w σ.bx) a w:=by
 intro fuel
 induction fuel with
 |zero=>
  intro listed E σ a w h e;have e1:=fun ω=>e ω
  unfold U3 at e1;have hal:=bF (e []);have AMl:(hint.all fun b=> !ly σ.bx b)=true:=APO.2 fun b hb=>by simp_all
  simp only[AMl,AOx]at e1;cases hr:Region.ready .any ops listed with
  |nil=>
   simp only[hr]at e1;exact⟨hr,hk E σ a w h e1⟩
  |cons i rs=>
   simp_all
 |succ fuel ih=>
  intro listed E σ a w h e;have e1:=fun ω=>e ω
  unfold U3 at e1;have hal:=bF (e []);have AMl:(hint.all fun b=> !ly σ.bx b)=true:=APO.2 fun b hb=>by simp_all
  simp only[AMl,AOx]at e1;cases hr:Region.ready .any ops listed with
  |nil=>
   simp only[hr]at e1;exact⟨fun _=>hk E σ a w h e1,by simp_all⟩
  |cons i0 rs=>
   simp only[hr]at e1;cases hf:(i0::rs).find? (sA hint ops listed σ)with
   |some i=>
    simp only[hf]at e1;have hi:=ATF hf;have ht:=List.find?_some hf
    unfold sA at ht;cases ho:ops[i]? with
    |none=>simp_all
    |some o=>
     simp only[ho,AJR]at ht;have Tb:=Region.free_spec ho ht.2;rw[<-hr]at hi;have hy:=vp (I:=List Bool) (kn:=fun ω σ' =>U3 C hint ops kn fuel (listed.setIfInBounds i true) ω σ') ho h.rel e1;rcases hy with⟨hw,hx⟩|⟨hw,hx⟩
     ·have hq:lE hint σ o.op=true:=by
       rcases AOy _ _▸ht.1 with hq|hi
       ·omega
       ·rw[AHG h.rel hi]at hw
        cases hw
      obtain⟨x,σ',hx0,hx1⟩:=l5 hx;obtain⟨v,x',q1,q2,q3⟩:=ABx hT h.rel hq hx0;simp only[k0,AJL,ANx]at q2;obtain⟨rfl,rfl⟩:=q2;have kO:=ih (h.put o.dst q1) hx1;have xn:(σ.put o.dst x').bx=σ.bx:=by cases o.dst<;>rfl
      rw[xn]at kO;exact oD ho (Region.noSelect_spec AGk) hP fuel listed _ a w Tb hi (.inl ⟨hw,q3⟩) kO
     ·have kO:=ih (h.put o.dst r9) hx
      have xn:(σ.put o.dst (.MA [])).bx=σ.bx:=by cases o.dst<;>rfl
      rw[xn]at kO;exact oD ho (Region.noSelect_spec AGk) hP fuel listed _ a w Tb hi (.inr ⟨hw,rfl⟩) kO
   |none=>
    simp only[hf]at e1;have X0:=oQ e1;refine⟨fun h0=>(by simp_all),fun i hi=> ?_⟩;rw[hr]at hi;have hx:=X0 i hi;cases ho:ops[i]? with
    |none=>
     simp_all
    |some o=>
     simp only[ho]at hx;have htc:(KP C.Γ σ o.op).all (fun b=> !hint.contains b)=true:=by
      have:=hx [];simp_all
     simp only[htc,AOx]at hx;have htn:∀b∈KP C.Γ σ o.op,b∉hint:=fun b hb hh=>by
      simp_all
     unfold wpOp;simp only[ho];rcases vp (I:=List Bool) (kn:=fun ω σ' =>U3 C hint ops kn fuel (listed.setIfInBounds i true) ω σ') ho h.rel hx with⟨hw,hx⟩|⟨hw,hx⟩
     ·rw[AI9 hw]
      obtain⟨x,σ',hx0,hx1⟩:=l5 hx;refine .inl (ACT hT hΓ h.rel hx0 fun v w' E' x' σ'' g1 g2 g3 g4 g5=> ?_);simp only[k0,AJL,ANx]at g5;obtain⟨rfl,rfl⟩:=g5;have xn:(σ''.put o.dst x').bx=σ''.bx:=by cases o.dst<;>rfl
      have AQr:=bF (hx1 []);rw[xn]at AQr;obtain⟨k1,k2⟩:=AEt g3 htn AQr;have kO:=ih ((h.next g1 g3 g4).put o.dst g2) hx1;grind
     ·rw[AJD (by simp[hw])]
      have kO:=ih (h.put o.dst r9) hx;have xn:(σ.put o.dst (.MA [])).bx=σ.bx:=by cases o.dst<;>rfl
      grind[sb.refl]
end Go.Fw
end
section
namespace Go.Fw
theorem Rel.heap{E:Env}{σ:St}{a:Act}{w w':World}(h:Rel E σ a w)(hw:w'.heap=w.heap):Rel E σ a w':=by
 have keep:Tk E w σ.bx E w' σ.bx:=by
  refine⟨ALj _,fun _ _=>rfl,fun _ h=>h,fun _ h=>h,h.bx.st,fun _ _=>by rw[hw],fun b d r rows hb e=>⟨d,rows,e,fun p hp q ys hg=>⟨hp,⟨ys,hg,rfl⟩,fun hh he=> ?_⟩⟩⟩;obtain⟨Fs,⟨f1,f2⟩,_⟩:=h.bx;have hF:Fs[b]? =some (Fs[b]'(by have:=(AJM.1 e).1;omega)):=AJA _;exact wy (f2 b _ _ e hF).2 (fun _ _=>by rw[hw]) (fun _ _=>by rw[hw]) hp hg he
 exact⟨h.N4,h.tm.imp fun _ _ hx=>Pc keep hx,h.bx.turn (fun _ _ hv=>GB keep hv) (fun _ h=>h) (fun _ _=>rfl) (fun _ _=>rfl) (fun _ _ _=>by rw[hw]) fun F hF=>⟨hF.nodup,hF.free,fun c hc=>by rw[hw];exact hF.lt c hc,hF.st,fun c hc=>by rw[hw];exact hF.cI c hc,hF.tu.mono (fun _ h=>h) (fun _ _=>by rw[hw])⟩⟩
theorem Ok.drawn{E0 E:Env}{w0 w:World}{N nb:Nat}{σ:St}{a:Act}(h:Ok E0 w0 N nb E σ a w)(n:Nat):Ok E0 w0 N nb E σ a { w with drawn:=n }:=
 ⟨h.rel.heap rfl,⟨h.base.T,h.base.S,h.base.Tof,h.base.Sof,h.base.heap,h.base.os,h.base.tape,h.base.output,h.base.size⟩,h.tm,h.qY,h.ids⟩
theorem nU{Y I:Type}[Nonempty I]{P:Program}{C:cQ}(hT:ES P C.T)(hΓ:jT P C.Γ){E0:Env}{w0:World}{N nb:Nat}{all:Array Oper}{kn:I->St->Option Y}{y:Y}{Q:Exit->Act->World->Prop}
  (hk:∀E σ a w,Ok E0 w0 N nb E σ a w->(∀ω,kn ω σ=some y)->Q .normal a w):∀{l:List Oper} {E:Env} {σ:St} {a:Act} {w:World},Ok E0 w0 N nb E σ a w->(∀ω,w4 C all l (kn ω) σ=some y)->wpList P all Q l a w
 |[],E,σ,a,w,h,e=>hk E σ a w h e
 |o::rest,E,σ,a,w,h,e=>by
  unfold wpList;rcases vI (kn:=fun ω σ=>w4 C all rest (kn ω) σ) h.rel e with⟨hw,hx⟩|⟨hw,hx⟩
  ·rw[AI9 hw]
   obtain⟨x,σ',hx0,hx1⟩:=l5 hx;refine .inl (ACT hT hΓ h.rel hx0 fun v w' E' x' σ'' g1 g2 g3 g4 g5=> ?_);simp only[k0,AJL,ANx]at g5;obtain⟨rfl,rfl⟩:=g5;exact nU hT hΓ hk ((h.next g1 g3 g4).put o.dst g2) hx1
  ·rw[AJD (by simp[hw])]
   exact nU hT hΓ hk (h.put o.dst r9) hx
def OE(P:Program)(body:Code)(Q:Exit->Act->World->Prop)(a:Act)(w:World):Prop:=
 ∀(b:Frame) (k:List Item) (cs:List Frame),∃e a' w',Q e a' w'/\Arrives P (lone (b.at a (.code body:: .inLoop body::k)) cs w) b k cs e a' w'
theorem OE.wp{P:Program}{body:Code}{Q:Exit->Act->World->Prop}{a:Act}{w:World}(h:OE P body Q a w):(Code.loop body).wp P Q a w:=fun b k cs=>by
 obtain⟨e,a',w',hq,ef⟩:=h b k cs;exact⟨e,a',w',hq,.of_steps (.one step_loop) ef⟩
theorem OE.AHh{P:Program}{body:Code}{Q:Exit->Act->World->Prop}{a:Act}{w:World}(h:body.wp P (Exit.then (OE P body Q) Q) a w):OE P body Q a w:=fun b k cs=>by
 obtain⟨e,a₁,w₁,hq,ef⟩:=h b (.inLoop body::k) cs;cases e with
 |normal=>
  obtain⟨e₂,a₂,w₂,hq₂,harr₂⟩:=hq b k cs;exact⟨e₂,a₂,w₂,hq₂,.of_steps (Steps.trans ef (.one step_inLoop)) harr₂⟩
 |exit id=>exact⟨_,a₁,w₁,hq,.pass (x:= .inLoop body) rfl (fun _ _=> .inl (by simp)) ef⟩
 |goto l=>exact⟨_,a₁,w₁,hq,.pass (x:= .inLoop body) rfl (fun _ _=> .inl (by simp)) ef⟩
 |ret=>exact⟨_,a₁,w₁,hq,.pass (x:= .inLoop body) rfl (fun _ _=> .inl (by simp)) ef⟩
 |panic ch=>exact⟨_,a₁,w₁,hq,.pass (x:= .inLoop body) rfl (fun _ _=> .inl (by simp)) ef⟩
 |outgrown=>exact⟨_,a₁,w₁,hq,.pass (x:= .inLoop body) rfl (fun _ _=> .inl (by simp)) ef⟩
abbrev mg:=Exit->Act->World->Prop
def At(P:Program):Code->mg->Nat->Code->mg->Prop
 | .seq a b,Q,ℓ,body,Q' =>At P a (Exit.then (b.wp P Q) Q) ℓ body Q'\/At P b Q ℓ body Q'
 | .cond _ a b,Q,ℓ,body,Q' =>At P a Q ℓ body Q'\/At P b Q ℓ body Q'
 | .block id c,Q,ℓ,body,Q' =>At P c (Exit.inBlock id Q) ℓ body Q'
 | .loop c,Q,ℓ,body,Q' =>(first c= ℓ /\body=c/\Q' =Q)\/At P c (Exit.then (OE P c Q) Q) ℓ body Q'
 |_,_,_,_,_=>False
def gD(Q:mg):Prop:= ∀c a w,¬Q (.panic c) a w
theorem gD.then{Q:mg}(h:gD Q)(n:Act->World->Prop):gD (Exit.then n Q):=fun c a w hq=>h c a w hq
theorem gD.inBlock{Q:mg}(h:gD Q)(id:Nat):gD (Exit.inBlock id Q):=fun c a w hq=>h c a w hq
section
variable{Y:Type} {P:Program} {C:cQ} (hT:ES P C.T) (hΓ:jT P C.Γ) (hm:P.follows .mixedOrders=true) {E0:Env} {w0:World} {N nb:Nat} {y:Y} {J:Nat->St->Option Y}
structure Good (E0:Env) (w0:World) (N nb:Nat) (y:Y) (kn:KN Y) (kx:Nat->KN Y) (kr:KN Y) (Q:mg):Prop where
 n:∀E σ a w,Ok E0 w0 N nb E σ a w->(∀ω,kn ω σ=some y)->Q .normal a w
 x:∀id E σ a w,Ok E0 w0 N nb E σ a w->(∀ω,kx id ω σ=some y)->Q (.exit id) a w
 r:∀E σ a w,Ok E0 w0 N nb E σ a w->(∀ω,kr ω σ=some y)->Q .ret a w
def JOk(P:Program)(E0:Env)(w0:World)(N nb:Nat)(y:Y)(J:Nat->St->Option Y)(cd:Code)(Q:mg):Prop:=
 ∀ ℓ body Q',At P cd Q ℓ body Q'-> ∀E σ a w,Ok E0 w0 N nb E σ a w->J ℓ σ=some y->OE P body Q' a w
include hT hΓ hm in
theorem AA1:∀{cd:Code} {kn:KN Y} {kx:Nat->KN Y} {kr:KN Y} {Q:mg} {E:Env} {σ:St} {a:Act} {w:World},gD Q->Good E0 w0 N nb y kn kx kr Q->JOk P E0 w0 N nb y J cd Q->Ok E0 w0 N nb E σ a w->
  (∀ω,run C J cd kn kx kr ω σ=some y)->cd.wp P Q a w:=by
 intro cd
 induction cd with
 |skip=>intro kn kx kr Q E σ a w hp hg hj h e;exact wp_skip (hg.n E σ a w h e)
 |region id ops draw=>
  intro kn kx kr Q E σ a w hp hg hj h e;simp only[run]at e;cases draw with
  |false=>
   simp only[AJn,AMd]at e;exact wp_region_list (nU hT hΓ hg.n h e)
  |true=>
   simp only[AOx]at e;have hs:Region.noSelect ops=true:=by
    have:=e [];split at this
    ·rename_i hh;exact hh
    ·cases this
   simp only[hs,AOx]at e;exact wp_region_any hm (v7 _ _ _ _ _ (we hT hΓ hs hp hg.n _ (h.drawn _) e))
 |seq x z ihx ihz=>
  intro kn kx kr Q E σ a w hp hg hj h e;simp only[run]at e;refine wp_seq (ihx (hp.then _) ⟨fun E σ a w h e=>ihz hp hg (fun ℓ body Q' Rz=>hj ℓ body Q' (.inr Rz)) h e,fun id E σ a w h e=>hg.x id E σ a w h e,hg.r⟩ (fun ℓ body Q' Rz=>hj ℓ body Q' (.inl Rz)) h e)
 |cond c x z ihx ihz=>
  intro kn kx kr Q E σ a w hp hg hj h e;cases c with
  |tmp t=>
   simp only[run]at e;have e0:=e [];split at e0
   ·rename_i b hb
    simp only[hb]at e;obtain⟨v,hv,hx⟩:=h.rel.tmp hb;have hvb:=TT (E:=E) (w:=w) (vw:=σ.bx) hx;subst hvb;have hev:a.eval (.tmp t)= .bool b:=by simp[Act.eval,AS_,hv]
    have hk:=xw hb;cases b with
    |true=>
     simp only[AJy,tt,hk]at e;exact wp_cond_true hev (ihx hp hg (fun ℓ body Q' Rz=>hj ℓ body Q' (.inl Rz)) h e)
    |false=>
     simp only[AJQ,ff,hk]at e;exact wp_cond_false hev (ihz hp hg (fun ℓ body Q' Rz=>hj ℓ body Q' (.inr Rz)) h e)
   ·cases e0
  |_=>cases e []
 |block id c ih=>
  intro kn kx kr Q E σ a w hp hg hj h e;simp only[run]at e;refine wp_block (ih (hp.inBlock id) ⟨hg.n,fun j E σ a w h e=> ?_,hg.r⟩ (fun ℓ body Q' Rz=>hj ℓ body Q' Rz) h e);simp only[Exit.inBlock];split
  ·rename_i hid
   simp only[hid,AOx]at e;exact hg.n E σ a w h e
  ·rename_i hid
   simp only[hid,AMd]at e;exact hg.x j E σ a w h e
 |loop body ih=>
  intro kn kx kr Q E σ a w hp hg hj h e;simp only[run]at e;exact OE.wp (hj (first body) body Q (.inl ⟨rfl,rfl,rfl⟩) E σ a w h (e []))
 |exit id=>intro kn kx kr Q E σ a w hp hg hj h e;exact wp_exit (hg.x id E σ a w h e)
 |ret=>intro kn kx kr Q E σ a w hp hg hj h e;exact wp_ret (hg.r E σ a w h e)
 |_=>intro kn kx kr Q E σ a w hp hg hj h e;cases e []
end
end Go.Fw
end
section
namespace Go.Fw
def labels:Code->List Nat
 | .seq a b=>labels a++labels b
 | .cond _ a b=>labels a++labels b
 | .block _ c=>labels c
 | .loop c=>first c::labels c
 |_=>[]
theorem At.label{P:Program}:∀{cd:Code} {Q:mg} {ℓ :Nat} {body:Code} {Q':mg},At P cd Q ℓ body Q'-> ℓ ∈labels cd
 | .seq a b,Q,ℓ,body,Q',h=>by
  simp only[labels,ALk];exact h.imp At.label At.label
 | .cond _ a b,Q,ℓ,body,Q',h=>by
  simp only[labels,ALk];exact h.imp At.label At.label
 | .block _ c,Q,ℓ,body,Q',h=>At.label (cd:=c) h
 | .loop c,Q,ℓ,body,Q',h=>by
  simp only[labels,ALa];exact h.imp (fun h=>h.1.symm) At.label
section
variable{Y:Type} {P:Program} {C:cQ} (hT:ES P C.T) (hΓ:jT P C.Γ) (hm:P.follows .mixedOrders=true) {E0:Env} {w0:World} {N nb:Nat} {y:Y} {J:Nat->St->Option Y}
theorem Rb{ℓ :Nat}:∀{cd:Code} {kn:KN Y} {kx:Nat->KN Y} {kr:KN Y},ℓ ∉labels cd->find C J ℓ cd kn kx kr=none
 | .seq a b,kn,kx,kr,h=>by
  simp only[labels,ALk,ATi]at h;simp only[find];rw[Rb h.1];exact Rb h.2
 | .cond _ a b,kn,kx,kr,h=>by
  simp only[labels,ALk,ATi]at h;simp only[find];rw[Rb h.1];exact Rb h.2
 | .block _ c,kn,kx,kr,h=>by simp only[find];exact Rb (cd:=c) h
 | .loop c,kn,kx,kr,h=>by
  simp only[labels,ALa,ATi]at h;simp only[find];rw[AJD (fun e=>h.1 e.symm)];exact Rb h.2
 | .skip,_,_,_,_=>rfl
 | .region _ _ _,_,_,_,_=>rfl
 | .rangeFunc _ _ _ _,_,_,_,_=>rfl
 | .exit _,_,_,_,_=>rfl
 | .scope _,_,_,_,_=>rfl
 | .label _,_,_,_,_=>rfl
 | .goto _,_,_,_,_=>rfl
 | .ret,_,_,_,_=>rfl
 | .refuse _,_,_,_,_=>rfl
include hT hΓ hm in
theorem AIC{ℓ :Nat}:∀{cd:Code} {kn:KN Y} {kx:Nat->KN Y} {kr:KN Y} {Q:mg} {body:Code} {Q':mg},(labels cd).Nodup->gD Q->Good E0 w0 N nb y kn kx kr Q->JOk P E0 w0 N nb y J cd Q->At P cd Q ℓ body Q'->
  ∃kn' kx' kr',find C J ℓ cd kn kx kr=some (fun ω σ=>run C J body (fun _ σ=>J ℓ σ) kx' kr' ω σ)/\Good E0 w0 N nb y kn' kx' kr' Q'/\gD Q'/\JOk P E0 w0 N nb y J body (Exit.then (OE P body Q') Q'):=by
 intro cd
 induction cd with
 |seq a b iha ihb=>
  intro kn kx kr Q body Q' hn hp hg hj Rz;simp only[labels,AKg]at hn;obtain⟨n1,n2,n3⟩:=hn;have hja:JOk P E0 w0 N nb y J a (Exit.then (b.wp P Q) Q):=fun ℓ body Q' Rz=>hj ℓ body Q' (.inl Rz)
  have hjb:JOk P E0 w0 N nb y J b Q:=fun ℓ body Q' Rz=>hj ℓ body Q' (.inr Rz)
  simp only[find];rcases Rz with Rz|Rz
  ·obtain⟨kn',kx',kr',h1,h2⟩:=iha n1 (hp.then _) (kn:=fun ω σ=>run C J b kn kx kr ω σ) (kx:=kx) (kr:=kr)
    ⟨fun E σ a w h e=>AA1 hT hΓ hm hp hg hjb h e,fun id E σ a w h e=>hg.x id E σ a w h e,hg.r⟩ hja Rz
   exact⟨kn',kx',kr',by rw[h1],h2⟩
  ·have: ℓ ∉labels a:=fun h=>n3 ℓ h ℓ Rz.label rfl
   rw[Rb this];exact ihb n2 hp hg hjb Rz
 |cond c a b iha ihb=>
  intro kn kx kr Q body Q' hn hp hg hj Rz;simp only[labels,AKg]at hn;obtain⟨n1,n2,n3⟩:=hn;simp only[find];rcases Rz with Rz|Rz
  ·obtain⟨kn',kx',kr',h1,h2⟩:=iha n1 hp hg (fun ℓ body Q' Rz=>hj ℓ body Q' (.inl Rz)) Rz
   exact⟨kn',kx',kr',by rw[h1],h2⟩
  ·have: ℓ ∉labels a:=fun h=>n3 ℓ h ℓ Rz.label rfl
   rw[Rb this];exact ihb n2 hp hg (fun ℓ body Q' Rz=>hj ℓ body Q' (.inr Rz)) Rz
 |block id c ih=>
  intro kn kx kr Q body Q' hn hp hg hj Rz;simp only[find];refine ih hn (hp.inBlock id) ⟨hg.n,fun j E σ a w h e=> ?_,hg.r⟩ (fun ℓ body Q' Rz=>hj ℓ body Q' Rz) Rz;simp only[Exit.inBlock];split
  ·rename_i hid
   simp only[hid,AOx]at e;exact hg.n E σ a w h e
  ·rename_i hid
   simp only[hid,AMd]at e;exact hg.x j E σ a w h e
 |loop c ih=>
  intro kn kx kr Q body Q' hn hp hg hj Rz;simp only[labels,AS4]at hn;have hj':JOk P E0 w0 N nb y J c (Exit.then (OE P c Q) Q):=fun ℓ body Q' Rz=>hj ℓ body Q' (.inr Rz)
  simp only[find];by_cases hl:first c= ℓ
  ·rw[AI9 hl]
   rcases Rz with⟨_,rfl,rfl⟩|Rz
   ·exact⟨kn,kx,kr,rfl,hg,hp,hj'⟩
   ·exact absurd (hl▸Rz.label) hn.1
  ·rw[AJD hl]
   rcases Rz with⟨h,_⟩|Rz
   ·exact absurd h hl
   ·exact ih hn.2 (hp.then _) ⟨fun E σ a w h e=>hj (first c) c Q (.inl ⟨rfl,rfl,rfl⟩) E σ a w h (e []),fun id E σ a w h e=>hg.x id E σ a w h e,hg.r⟩ hj' Rz
 |_=>intro kn kx kr Q body Q' hn hp hg hj Rz;exact Rz.elim
end
theorem kf{E:Env}{w:World}{vw:List Bx}:∀{l:List (Nat×XP)} {x:GF.V l} {vals:List Value} {tm:List XV},Mm E w vw id l x vals->CX (XR E w vw) tm vals->CX (XR E w vw) (GF.mk id l x tm) vals
 |[],_,_,_,_,h=>h
 |(i,p)::l,x,vals,tm,hs,h=>by
  obtain⟨⟨v,hv,hx⟩,hs⟩:=hs;simp only[GF.mk];refine kf hs ?_
  have:=CX.set (i:=i) h hx;have e:vals.set i v=vals:=by
   apply ASB;grind
  simp_all
theorem CX.undef{E:Env}{w:World}{vw:List Bx}:∀{vals:List Value} {n:Nat},n=vals.length->CX (XR E w vw) (List.replicate n (.c .undef)) vals
 |[],n,h=>by subst h;trivial
 |v::vals,n,h=>by
  subst h;simp only[AJq,ATZ];exact⟨trivial,CX.undef rfl⟩
theorem wg.shared{E E1:Env}{w:World}{bx:List Bx}{m:P5}{s:Bc}{x:s.V}{vals:List Value}(h:wg E w bx m s x vals E1)(hb:C0 E w bx bx []):
  ∃E2,E2.Hg=E1.Hg/\E2.Hi=E1.Hi/\fb E w E2 w/\C0 E2 w (I8.mk id s.GG x.2) (I8.mk id s.GG x.2) []/\Mm E2 w (I8.mk id s.GG x.2) id s.Dw x.1 vals:=by
 obtain⟨Fk,k1,k2,k3,k4⟩:=h.rest
 let E2:Env:={ E1 with S:=fun c=>E1.S c\/c∈Fk.flatten }
 have st1:=h.boxes.st;have keep:Tk E1 w (I8.mk id s.GG x.2) E2 w (I8.mk id s.GG x.2):=
  ⟨ALj _,fun _ _=>rfl,fun _ h=>h,fun _ h=> .inl h,st1,fun _ _=>rfl,fun b d r rows _ e=>⟨d,rows,e,fun p hp q ys hg=>⟨hp,⟨ys,hg,rfl⟩,fun _ h=>h⟩⟩⟩
 refine⟨E2,rfl,rfl,⟨h.T,fun c hc=> .inl (h.S c hc),fun c hc=> ?_,fun c hc=> ?_,fun _ _=>rfl,rfl,rfl,rfl,ALj _⟩,?_,?_⟩
 ·rcases k4 c hc with h|h|h
  ·exact .inl h
  ·exact .inr (.inl h)
  ·exact .inr (.inr h)
 ·rcases hc with hc|hc
  ·exact h.Sof c hc
  ·exact .inr (k3 c hc).1
 ·refine h.boxes.turn (E':=E2) (w':=w) (fun _ _ hv=>GB keep hv) (fun _ h=> .inl h) (fun _ _=>rfl) (fun _ _=>rfl) (fun _ _ _=>rfl) fun F hF=>⟨hF.nodup,hF.free,hF.lt,fun c hc=>hc.elim (hF.st c) fun h=>(k3 c h).2.2.2,hF.cI,hF.tu.mono (fun _ h=>h) (fun _ _=>rfl)⟩
 ·have:∀{l:List (Nat×XP)} {z:GF.V l},Mm E1 w (I8.mk id s.GG x.2) id l z vals->Mm E2 w (I8.mk id s.GG x.2) id l z vals:=by
   intro l
   induction l with
   |nil=>intro z h;trivial
   |cons q l ih=>
    obtain⟨i,p⟩:=q;intro z h;obtain⟨⟨v,hv,hx⟩,hs⟩:=h;exact⟨⟨v,hv,Pc keep hx⟩,ih hs⟩
  exact this h.Dw
theorem iT:∀{l:List BP} {i n:Nat},(UX i n l).length=l.length
 |[],_,_=>rfl
 |_::l,i,n=>by simp[UX,iT (l:=l)]
theorem ji:∀{l:List BP} {i n k b:Nat},(UX i n l)[k]? =some (some b)->b=i+k/\b<n/\l[k]?≠some .gone
 |[],i,n,k,b,h=>by simp[UX]at h
 |p::l,i,n,0,b,h=>by
  grind[UX,List.getElem?_cons_zero,Option.some.injEq]
 |p::l,i,n,k+1,b,h=>by
  simp only[UX,ATN]at h;obtain⟨h1,h2,h3⟩:=ji h;grind
theorem jk:∀{l:List BP} {i n k:Nat} {p:BP},l[k]? =some p->p≠ .gone->i+k<n->(UX i n l)[k]? =some (some (i+k))
 |q::l,i,n,0,p,h,hg,hn=>by
  simp at h;subst h;simp only[UX,List.getElem?_cons_zero,AJL];simp_all
 |q::l,i,n,k+1,p,h,hg,hn=>by
  simp only[UX,ATN];rw[jk (l:=l) (i:=i+1) (k:=k) (by simp_all) hg (by omega)];grind
 |[],_,_,_,_,h,_,_=>by simp at h
theorem sF{l:List BP}{n:Nat}:rm (UX 0 n l):=fun i j b h k=>by
 have:=(ji h).1;have:=(ji k).1;omega
end Go.Fw
end
section
namespace Go.Fw
structure ARS (P:Program) (f:Nat) (fn:Func) (c:Qv):Prop where
 at_:P.funcs[f]? =some fn
 call:∀args w,(callFunc f args).run P w= .ok (.enter f args) w
 con:c.ok=true
 tmps:c.ins.Dw.length<=fn.ntmps
 labels:∀code,fn.body=some code->(labels code).Nodup
section
variable{P:Program} {C:cQ} (hT:ES P C.T) {E:Env} {σ:St} {a:Act} {w:World}
include hT in
theorem AGH(h:Rel E σ a w):
  ∀{rs:List ResultVar} {xs:List XV},rs.mapM (AGh C.T σ)=some xs-> ∃vs,(∀f:ResultVar->Sem Value,(∀u,f (.tmp u)=pure (a.tmps.getD u undef))->(∀b t,f (.cell b t)=(do loadVar t (<-asAddr (a.tmps.getD b undef))))->
   (rs.mapM f).run P w= .ok vs w)/\CX (XR E w σ.bx) xs vs:=by
 intro rs
 induction rs with
 |nil=>
  intro xs e;have hx:xs=[]:=by simpa using e.symm
  subst hx;exact⟨[],fun f _ _=>by simp,trivial⟩
 |cons r rs ih=>
  intro xs e;rw[ATf]at e;simp only[Option.bind_eq_bind,AJa,Option.pure_def,AJL]at e;obtain⟨x,e1,ys,e2,rfl⟩:=e;obtain⟨vs,h1,h2⟩:=ih e2;have one:∃v,(∀f:ResultVar->Sem Value,(∀u,f (.tmp u)=pure (a.tmps.getD u undef))->(∀b t,f (.cell b t)=(do loadVar t (<-asAddr (a.tmps.getD b undef))))->(f r).run P w= .ok v w)/\XR E w σ.bx x v:=by
   cases r with
   |tmp t=>
    simp only[AGh]at e1;obtain⟨v,hv,hx⟩:=h.tmp e1;refine⟨v,fun f hf hc=> ?_,hx⟩;rw[hf];simp[AS_,hv]
   |cell b t=>
    simp only[AGh]at e1;split at e1
    case h_2=>cases e1
    rename_i z hz;obtain⟨v,hv,hx⟩:=h.tmp hz;obtain⟨Fs,hB,hS⟩:=h.bx;cases z with
    |agg l=>simp[oh]at e1
    |MA l=>simp[oh]at e1
    |c ad=>
     obtain⟨bb,oo,u,cell,hp,_,q2,q3⟩:=vv hT hB hS.st e1 hx;refine⟨u,fun f hf hc=> ?_,q2⟩;have hgd:a.tmps.getD b undef=v:=by simp[AS_,hv]
     have:=q3 w rfl;rw[hc,hgd,hp];rw[hp]at this;simpa[Instr.loadAt,Instr.sureAddr,asAddr]using this
  obtain⟨v,g1,g2⟩:=one;refine⟨v::vs,fun f hf hc=> ?_,g2,h2⟩;rw[ATf];simp[g1 f hf hc,h1 f hf hc]
theorem ij{vw:List Bx}:∀{l:List XV} {q:List (AV ⊕ List AV)} {vs:List Value},yu l=some q->CX (XR E w vw) l vs->CX (TR E w vw) q vs
 |[],q,[],e,_=>by
  simp only[yu,AJL]at e;subst e;trivial
 |[],_,_::_,_,h=>h.elim
 | .c x::l,q,v::vs,e,h=>by
  simp only[yu,AJN]at e;obtain⟨r,e1,rfl⟩:=e;exact⟨h.1,ij e1 h.2⟩
 | .agg x::l,q,v::vs,e,h=>by
  simp only[yu,AJN]at e;obtain⟨r,e1,rfl⟩:=e;exact⟨h.1,ij e1 h.2⟩
 | .MA _::_,_,_,e,_=>by simp[yu]at e
 | .c _::_,_,[],_,h=>h.elim
 | .agg _::_,_,[],_,h=>h.elim
include hT in
theorem uF(h:Rel E σ a w){fn:Func}{x:XV}(e:lW C.T σ fn.results.toList=some x):∃v,(results fn a.tmps).run P w= .ok v w/\XR E w σ.bx x v:=by
 unfold lW at e;have key:∀xs,fn.results.toList.mapM (AGh C.T σ)=some xs-> ∃vs:List Value,(results fn a.tmps).run P w= .ok (if h:vs.toArray.size=1 then vs.toArray[0]else .tuple vs.toArray) w/\CX (XR E w σ.bx) xs vs:=by
  intro xs hx;obtain⟨vs,h1,h2⟩:=AGH (P:=P) hT h hx;refine⟨vs,?_,h2⟩;unfold results;rw[Array.mapM_eq_mapM_toList];simp only[Sem.run_bind,Sem.run_map];rw[h1 _ (fun _=>rfl) (fun _ _=>rfl)];simp only[Result.andThen_ok,Sem.run_pure]
 split at e
 ·rename_i z hz
  cases e;obtain⟨vs,h1,h2⟩:=key _ hz
  match vs,h2 with
  |[v],h2=>exact⟨v,by simpa using h1,h2.1⟩
  |v::_::_,h2=>exact h2.2.elim
  |[],h2=>exact h2.elim
 ·rename_i l hl hz
  simp only[AJN]at e;obtain⟨q,e1,rfl⟩:=e;obtain⟨vs,h1,h2⟩:=key _ hz;have WJ: ¬vs.toArray.size=1:=fun hs=>by
   have:=CX.len h2
   match l,this with
   |[z],_=>exact hl z rfl
   |[],t=>simp at t hs;omega
   |_::_::_,t=>simp at t hs;omega
  rw[dif_neg WJ]at h1;exact⟨_,h1,vs.toArray,rfl,by simpa using ij e1 h2⟩
 ·cases e
end
theorem iO{E:Env}{w:World}{vw:List Bx}{more:List Value}:∀{l:List (Nat×XP)} {x:GF.V l} {vals:List Value},Mm E w vw id l x vals->Mm E w vw id l x (vals++more)
 |[],_,_,_=>trivial
 |(i,p)::l,x,vals,h=>by
  obtain⟨⟨v,hv,hx⟩,hs⟩:=h;exact⟨⟨v,by grind,hx⟩,iO hs⟩
def ACe(C:cQ)(c:Qv)(fn:Func)(code:Code)(J:Nat->Nat->St->Option c.outs.V):Prop:=
 ∀ ℓ,ℓ ∈labels code-> ∃(s:Bc) (F:Nat->s.V->Option c.outs.V),(∀n,J n ℓ =jump c.ins.GG.length s (F n))/\(∀v,F 0 v=none)/\
  ∀n v y,F (n+1) v=some y-> ∀ω,Ke C c fn (J n) ℓ ω (s.st fn.ntmps v)=some y
section
variable{P:Program} {C:cQ} (hT:ES P C.T) (hΓ:jT P C.Γ) (hm:P.follows .mixedOrders=true) {fn:Func} {c:Qv}
def ALJ(c:Qv)(E0:Env)(w0:World)(u:c.outs.V)(e:Ending)(w':World):Prop:=
 ∃x E',e= .returned x/\fb E0 w0 E' w'/\C0 E' w' (I8.mk id c.outs.GG u.2) (I8.mk id c.outs.GG u.2) []/\
  Mm E' w' (I8.mk id c.outs.GG u.2) id c.outs.Dw u.1 [x]/\ ∀i,i<c.ins.GG.length->alive c.outs.GG i=true->E'.Hg i=E0.Hg i/\E'.Hi i=E0.Hi i
theorem Ok.opens{E0 E:Env}{w0 w:World}{N nb:Nat}{σ:St}{a:Act}(h:Ok E0 w0 N nb E σ a w)(s:Bc):∃E',Ok E0 w0 N nb E' { σ with bx:=s.opens σ.bx } a w/\
  (∀(i:Nat) d r,s.GG[i]? =some (.sl d r)->E'.Hi (σ.bx.length+i)= .slice none 0 0)/\(∀x v,XR E w σ.bx x v->XR E' w (s.opens σ.bx) x v):=by
 obtain⟨E',h1,h2,h3,h4⟩:=vy h.rel s;exact⟨E',h.next h1 h2 rfl,h3,h4⟩
theorem AG2{E E':Env}{w:World}{vw:List Bx}{b:Nat}(h:Le E E')(st:∀c,E.S c->E.T c):Tk E w vw E' w (vw.set b .dead):=by
 refine⟨by simp,fun b _=>by rw[h.Hg],h.T,h.S,st,fun _ _=>rfl,fun c d r rows _ e=> ?_⟩;by_cases hc:c=b
 ·simp_all
 ·rw[ALE (fun e=>hc e.symm)]at e
  exact⟨d,rows,e,fun p hp q ys hg=>⟨hp,⟨ys,hg,rfl⟩,fun h' hh=>by rw[h.Hi];omega⟩⟩
theorem AI1{E:Env}{σ:St}{a:Act}{w:World}(h:Rel E σ a w)(b:Nat):∃E',Rel E' (σ.sQ b) a w/\Le E E':=by
 unfold St.sQ;split
 case h_2=>exact⟨E,h,Le.refl E⟩
 rename_i d r rows hb;obtain⟨F,hF,hB⟩:=h.bx.take hb;have Xw:C0 E w σ.bx (σ.bx.set b .dead) ([]++F++[]):=by simpa using hB
 obtain⟨hle,hB3⟩:=Xw.share;have hk:=AG2 (vw:=σ.bx) (b:=b) (w:=w) hle h.bx.st;have hk2:Tk E w σ.bx { E with S:=fun c=>E.S c\/c∈F,T:=fun c=>E.T c\/c∈F } w ((σ.bx.set b .dead).map (Bx.sQ b r rows)):=by
  refine⟨by simp,hk.Hg,hk.T,hk.S,hk.st,hk.heap,fun c d' r' rows' hc e=> ?_⟩;rw[ANd,AJN]at e;obtain⟨B,e,eB⟩:=e;cases B with
  |mem cs=>cases eB
  |dead=>cases eB
  |sl d0 r0 Sh=>
   cases eB;exact hk.box c _ _ _ hc e
 have hv:∀x v,VR E w σ.bx x v->VR { E with S:=fun c=>E.S c\/c∈F,T:=fun c=>E.T c\/c∈F } w ((σ.bx.set b .dead).map (Bx.sQ b r rows)) (x.sQ b r rows) v:=fun x v hx=>by
  unfold AV.sQ;split
  ·rename_i c
   split
   ·rename_i hc
    subst hc;obtain⟨h1,h2⟩:=hx;rw[hb]at h2;have hv:=h2.2.2;rw[Cv]at hv;simp only[AJL]at hv;have:=ZJ hF.2;rw[hv]at this;exact Fe (fun c hc=>hc) (fun _ _=>rfl) this
   ·exact GB hk2 hx
  ·exact GB hk2 hx
 refine⟨_,⟨h.N4,?_,?_⟩,hle⟩
 ·refine CX.L3 _ (fun x v hx=> ?_) h.tm
  unfold XV.sQ;split
  ·exact hv _ _ hx
  ·exact Pc hk2 hx
 ·obtain⟨Fs,⟨hl,h1⟩,h2⟩:=hB
  have h2':Sep E w (F++Fs.flatten):=h2.perm (by simpa using ARl);refine⟨Fs,⟨by simpa using hl,fun k B G Ti hG=> ?_⟩,?_⟩
  ·rw[ANd,AJN]at Ti
   obtain⟨B0,e,rfl⟩:=Ti;have h3:=h1 k B0 G e hG;cases B0 with
   |mem cs=>
    obtain⟨rfl,arr,ty,fr,a1,a2,a3⟩:=h3;exact⟨rfl,arr,ty,fr,a1,a2,CX.L3 _ (fun x v hx=>hv x v hx) a3⟩
   |sl d0 r0 Sh=>exact⟨h3.1,EP hle.S (fun _ _=>rfl) (fun _ _=>rfl) h3.2⟩
   |dead=>exact h3
  ·rw[AKX]
   have st:=h.bx.st;refine⟨(AKg.1 h2'.nodup).2.1,fun c hc ht=> ?_,fun c hc=>h2'.lt c (by simp only[ALk];exact .inr hc),fun c hc=>hc.imp (st c) id,fun c hc=>hc.elim (h2'.cI c) fun h' =>h2'.lt c (by simp[h']),h2'.tu.mono (fun _ h=> .inl h) (fun _ _=>rfl)⟩;rcases ht with ht|ht
   ·exact h2'.free c (ALk.2 (.inr hc)) ht
   ·exact(AKg.1 h2'.nodup).2.2 c ht c hc rfl
theorem AGp{σ:St}{b i:Nat}(h:σ.bx[i]? =some .dead):(σ.sQ b).bx[i]? =some .dead:=by
 unfold St.sQ;split
 ·simp only[ANd,List.getElem?_set]
  split
  ·simp_all
  ·rw[h];rfl
 omega
theorem AC5{σ:St}{b:Nat}:(σ.sQ b).bx.length=σ.bx.length/\(σ.sQ b).tm.length=σ.tm.length:=by
 grind[St.sQ]
theorem Ok.sQ{E0 E:Env}{w0 w:World}{N nb:Nat}{σ:St}{a:Act}(h:Ok E0 w0 N nb E σ a w)(b:Nat):∃E',Ok E0 w0 N nb E' (σ.sQ b) a w:=by
 obtain⟨E',h1,h2⟩:=AI1 h.rel b;refine⟨E',⟨h1,h.base.trans (h2.base w),by rw[AC5.2];exact h.tm,by rw[AC5.1];exact h.qY,fun i hi hd=> ?_⟩⟩;rw[h2.Hg,h2.Hi];exact h.ids i hi fun e=>hd (AGp e)
theorem Ok.G8{E0:Env}{w0 w:World}{N nb:Nat}{a:Act}:∀(l:List AP) (xs:List AV) {E:Env} {σ:St},Ok E0 w0 N nb E σ a w-> ∃E',Ok E0 w0 N nb E' (G8 l xs σ) a w:=by
 intro l xs E σ h
 induction l generalizing xs E σ with
 |nil=>grind[Fw.G8]
 |cons p l ih=>
  unfold Fw.G8;split
  ·rename_i heq
   cases heq;obtain⟨E',h'⟩:=h.sQ _;exact ih _ h'
  ·rename_i heq
   cases heq;exact ih _ h
  grind
theorem Ok.AVZ{E0:Env}{w0 w:World}{N nb:Nat}{a:Act}{bs:List BP}:∀(l:List (Nat×XP)) {E:Env} {σ:St},Ok E0 w0 N nb E σ a w-> ∃E',Ok E0 w0 N nb E' (QU bs l σ) a w:=by
 intro l
 induction l with
 |nil=>intro E σ h;exact⟨E,h⟩
 |cons q l ih=>
  intro E σ h;unfold QU;split
  ·simp_all
  ·rename_i e
   cases e;split
   ·obtain⟨E',h'⟩:=h.G8 [_] [_]
    exact ih h'
   grind
  ·rename_i e
   cases e;split
   ·split
    ·obtain⟨E',h'⟩:=h.G8 _ _
     exact ih h'
    grind
   grind
  grind
theorem wY{E:Env}{w:World}{vw:List Bx}{x:AV}{v:Value}(h:VR E w vw x v)(hx:x.vA=true):isSlice v=true:=by
 cases x with
 |ref b p=>exact h.1
 |win b p o n=>exact h.1
 |sl s r y=>
  simp only[VR,Rd]at h;obtain⟨a,cap,h,_⟩:=h;simp only[AL9,AO1]at h;rw[h];rfl
 |nil=>cases h;rfl
 |_=>cases hx
theorem ABp{E:Env}{σ:St}{a:Act}{w:World}(h:Rel E σ a w)(b j:Nat):Rel E (σ.forget b j) a w/\σ.bx.length<=(σ.forget b j).bx.length/\(∀i:Nat,σ.bx[i]? =some Bx.dead->(σ.forget b j).bx[i]? =some Bx.dead)/\(σ.forget b j).tm=σ.tm:=by
 unfold St.forget;split
 case h_2=>simp_all
 rename_i cs hb;split
 case h_2=>simp_all
 rename_i x hx;split
 case isFalse=>simp_all
 rename_i hs;have hbl:=(AJM.1 hb).1;have hk:Tk E w σ.bx E w (σ.bx.set b (.mem (cs.set j (.ref σ.bx.length [])))++[.dead]):=by
  refine⟨by simp,fun _ _=>rfl,fun _ h=>h,fun _ h=>h,h.bx.st,fun _ _=>rfl,fun c d r rows hc e=> ?_⟩;grind
 refine⟨⟨h.N4,h.tm.imp fun _ _ hx=>Pc hk hx,?_⟩,by simp,fun i hi=> ?_,rfl⟩
 ·obtain⟨Fs,⟨hl,h1⟩,h2⟩:=h.bx
  refine⟨Fs++[[]],⟨by simp[hl],fun k B G hB hG=> ?_⟩,by simp_all⟩;by_cases hk2:k<σ.bx.length
  ·rw[AKW (by simp_all)]at hB
   rw[AKW (by omega)]at hG;by_cases hkb:b=k
   ·subst hkb
    rw[AMq hk2]at hB;cases hB;obtain⟨rfl,arr,ty,fr,a1,a2,a3⟩:=h1 b _ G hb hG;refine⟨rfl,arr,ty,fr,a1,a2,?_⟩;have a4:jy E w (σ.bx.set b (.mem (cs.set j (.ref σ.bx.length [])))++[.dead]) cs arr.toList:=a3.imp fun _ _ hv=>GB hk hv
    obtain⟨v,hv,hvr⟩:=a3.get hx;have cl:arr.toList.set j v=arr.toList:=by
     apply ASB;grind
    rw[<-cl];refine CX.set a4 ⟨wY hvr hs,?_⟩;simp_all
   ·rw[ALE hkb]at hB
    have h3:=h1 k B G hB hG;cases B with
    |mem gF=>
     obtain⟨rfl,arr,ty,fr,a1,a2,a3⟩:=h3;exact⟨rfl,arr,ty,fr,a1,a2,a3.imp fun _ _ hv=>GB hk hv⟩
    |sl d0 r0 Sh=>exact h3
    |dead=>exact h3
  ·have hlen:=(AJM.1 hB).1
   simp only[AKN,ARG,AJq,AKx]at hlen;have hkk:k=σ.bx.length:=by omega
   subst hkk;rw[ALb (by simp)]at hB;rw[ALb (by omega)]at hG;simp[hl]at hB hG;subst hB hG;rfl
 grind
theorem Ok.forget{E0 E:Env}{w0 w:World}{N nb:Nat}{σ:St}{a:Act}(h:Ok E0 w0 N nb E σ a w)(b j:Nat):Ok E0 w0 N nb E (σ.forget b j) a w:=by
 obtain⟨h1,h2,h3,h4⟩:=ABp h.rel b j;exact⟨h1,h.base,by rw[h4];exact h.tm,AOT h.qY h2,fun i hi hd=>h.ids i hi fun e=>hd (h3 i e)⟩
theorem Ok.X7{E0 E:Env}{w0 w:World}{N nb:Nat}{a:Act}{bs:List BP}{b:Nat}:∀(l:List AP) (j:Nat) {σ:St},Ok E0 w0 N nb E σ a w->Ok E0 w0 N nb E (X7 bs b j l σ) a w
 |[],_,_,h=>h
 |p::l,j,σ,h=>by
  simp only[Fw.X7];refine Ok.X7 l (j+1) ?_
  split
  ·split
   ·exact h.forget _ _
   omega
  omega
theorem Ok.AQZ{E0 E:Env}{w0 w:World}{N nb:Nat}{a:Act}{bs:List BP}:∀(l:List (Nat×XP)) {σ:St},Ok E0 w0 N nb E σ a w->Ok E0 w0 N nb E (gI bs l σ) a w
 |[],_,h=>h
 |(i,p)::l,σ,h=>by
  simp only[gI];refine Ok.AQZ l ?_
  split
  ·split
   ·exact h.X7 _ _
   omega
  omega
theorem Ok.dO{E0:Env}{w0 w:World}{N nb:Nat}{a:Act}:∀(l:List (AP ⊕ List AP)) (xs:List (AV ⊕ List AV)) {E:Env} {σ:St},Ok E0 w0 N nb E σ a w-> ∃E',Ok E0 w0 N nb E' (dO l xs σ) a w:=by
 intro l xs E σ h
 induction l generalizing xs E σ with
 |nil=>unfold Fw.dO;exact⟨E,h⟩
 |cons p l ih=>
  unfold Fw.dO;split
  ·rename_i heq
   cases heq;obtain⟨E',h'⟩:=h.G8 _ _;exact ih _ h'
  ·rename_i heq
   cases heq;obtain⟨E',h'⟩:=h.G8 _ _;exact ih _ h'
  ·rename_i heq
   cases heq;exact ih _ h
  ·exact⟨E,h⟩
theorem Ok.mw{E0 E:Env}{w0 w:World}{N nb:Nat}{σ:St}{a:Act}(h:Ok E0 w0 N nb E σ a w)(l:List (Nat×XP))(x:XV):∃E',Ok E0 w0 N nb E' (mw l x σ) a w:=by
 unfold Fw.mw;split
 ·unfold AS6
  split
  ·exact h.G8 _ _
  ·exact h.G8 _ _
  ·exact h.dO _ _
  ·exact⟨E,h⟩
 ·exact⟨E,h⟩
include hT in
theorem vH{E0 E:Env}{w0 w:World}{N:Nat}{σ:St}{a:Act}{u:c.outs.V}(h:Ok E0 w0 N c.ins.GG.length E σ a w)(e:tf C.T c fn.results.toList σ=some u):
  a.defers=[]/\ ∃v,(results fn a.tmps).run P w= .ok v w/\ALJ c E0 w0 u (.returned v) w:=by
 unfold tf at e;simp only[AJa,AJN]at e;obtain⟨x0,_,x,e1,⟨u',m⟩,e2,rfl⟩:=e;obtain⟨E,h⟩:=h.mw c.outs.Dw x0;revert h e1 e2
 generalize Fw.mw c.outs.Dw x0 σ=σ
 intro e1 e2 h;obtain⟨v,h1,h2⟩:=uF hT h.rel e1;obtain⟨E,h,AA9,h4⟩:=h.opens c.outs
 replace h2:=h4 _ _ h2
 obtain⟨hext,E1,hf⟩:=mT (tm:=[x]) (vals:=[v]) h.rel.bx ⟨h2,trivial⟩ AA9 iT sF e2;obtain⟨E2,q1,q2,q3,q4,q5⟩:=hf.shared h.rel.bx;refine⟨h.rel.N4,v,h1,v,E2,rfl,h.base.trans q3,q4,q5,fun i hi hal=> ?_⟩;obtain⟨p,hp,hg⟩:∃p,c.outs.GG[i]? =some p/\p≠ .gone:=by
  unfold alive at hal;cases hh:c.outs.GG[i]? with
  |none=>rw[hh]at hal;cases hal
  |some p=>
   refine⟨p,rfl,fun hp=> ?_⟩;rw[hh,hp]at hal;cases hal
 have hm1:=hext.2 i i (by have:=jk (i:=0) (n:=c.ins.GG.length) hp hg (by omega);simpa using this);obtain⟨b,B,g1,g2,g3,_⟩:=wt e2 i p hp hg;rw[hm1]at g1;cases g1;have hid:=hf.ids i i hm1;have AFg:=h.ids i hi (fun hd=>by rw[g2]at hd;cases hd;exact g3 rfl);rw[q1,q2];exact⟨hid.1.trans AFg.1,hid.2.trans AFg.2⟩
include hT hΓ hm in
theorem AE1{code:Code}(hb:fn.body=some code)(hl:(labels code).Nodup){J:Nat->Nat->St->Option c.outs.V}(hJ:ACe C c fn code J)
  {E0:Env} {w0:World} {u:c.outs.V} {Q:mg} (hp:gD Q)
  (hg:Good E0 w0 fn.ntmps c.ins.GG.length u (fun _=>tf C.T c fn.results.toList) (fun _ _ _=>none) (fun _=>tf C.T c fn.results.toList) Q):
  ∀n,JOk P E0 w0 fn.ntmps c.ins.GG.length u (J n) code Q:=by
 intro n
 induction n with
 |zero=>
  intro ℓ body Q' Rz E σ a w h e;obtain⟨s,F,j1,j2,j3⟩:=hJ ℓ Rz.label;rw[j1]at e;simp only[jump]at e;split at e
  ·rw[AJa]at e
   obtain⟨q,_,e⟩:=e;rw[j2]at e;cases e
  ·cases e
 |succ n ih=>
  intro ℓ body Q' Rz E σ a w h e;obtain⟨s,F,j1,j2,j3⟩:=hJ ℓ Rz.label;rw[j1]at e;simp only[jump]at e;split at e
  case isFalse=>cases e
  rename_i qY;rw[AJa]at e;obtain⟨⟨v,m⟩,e1,e2⟩:=e;dsimp only at e2;obtain⟨E,h⟩:=h.AVZ (bs:=s.GG) s.Dw
  replace h:=h.AQZ (bs:=s.GG) s.Dw
  revert h e1
  generalize gI s.GG s.Dw (QU s.GG s.Dw σ)=σ
  intro e1 h;obtain⟨E,h,AA9,h4⟩:=h.opens s;obtain⟨hext,E1,hf⟩:=mT h.rel.bx h.rel.tm AA9 iT sF e1;obtain⟨E2,q1,q2,q3,q4,q5⟩:=hf.shared h.rel.bx;have K8:fn.ntmps=a.tmps.toList.length:=by rw[<-CX.len h.rel.tm,h.tm]
  have DX:Ok E0 w0 fn.ntmps c.ins.GG.length E2 (s.st fn.ntmps v) a w:=by
   refine⟨⟨h.rel.N4,kf q5 (CX.undef K8),q4⟩,h.base.trans q3,?_,?_,fun i hi hd=> ?_⟩
   ·have:=CX.len (kf q5 (CX.undef K8))
    simp only[Bc.st];rw[this,<-K8]
   ·simp only[Bc.st]
    rw[Uo];exact qY
   ·simp only[Bc.st]at hd
    have hp':s.GG[i]? =some (s.GG[i]'(by omega)):=AJA _;have hng:s.GG[i]'(by omega)≠ .gone:=fun hg' =>by
     obtain⟨z,z1,_⟩:=dM id (u:=v.2) hp';apply hd;rw[z1]
     generalize s.GG[i]'(by omega)=pp at z hg'
     subst hg';rfl
    have hm1:=hext.2 i i (by have:=jk (i:=0) (n:=c.ins.GG.length) hp' hng (by omega);simpa using this);obtain⟨b,B,g1,g2,g3,_⟩:=wt e1 i _ hp' hng;rw[hm1]at g1;cases g1;have hid:=hf.ids i i hm1;have AFg:=h.ids i hi (fun hd=>by rw[g2]at hd;cases hd;exact g3 rfl);rw[q1,q2];exact⟨hid.1.trans AFg.1,hid.2.trans AFg.2⟩
  have AGw:=j3 n v u e2;obtain⟨kn',kx',kr',hfind,oT,hnp,hj⟩:=AIC hT hΓ hm hl hp hg ih Rz;simp only[Ke,hb,hfind]at AGw;refine OE.AHh (AA1 hT hΓ hm (hnp.then _) (kn:=fun _ σ=>J n ℓ σ) ⟨fun E σ a w h e=> ?_,fun id E σ a w h e=>oT.x id E σ a w h e,oT.r⟩ hj DX AGw);exact ih ℓ body Q' Rz E σ a w h (e [])
include hT hΓ hm in
theorem y7{f:Nat}(hf:ARS P f fn c){J:Nat->Nat->St->Option c.outs.V}(hJ:∀code,fn.body=some code->ACe C c fn code J)
  (hg:∀v u,c.g v=some u-> ∃n,∀ω,DB C c fn (J n) ω v=some u):L4 P f c:=by
 refine⟨hf.con,hf.call,fun E w v args u IV hB hS hgv=> ?_⟩;obtain⟨n,hn⟩:=hg v u hgv;cases hb:fn.body with
 |none=>
  have:=hn [];simp only[DB,hb]at this;cases this
 |some code=>
  simp only[DB,hb]at hn;refine calls_of_wp hf.at_ hb ?_
  have hp:gD (bodyPost P fn (ALJ c E w u)):=fun ch a w' hq=>by
   obtain⟨_,x,E',hx,_⟩:=hq;cases hx
  have oT:Good E w fn.ntmps c.ins.GG.length u (fun _=>tf C.T c fn.results.toList) (fun _ _ _=>none) (fun _=>tf C.T c fn.results.toList) (bodyPost P fn (ALJ c E w u)):=
   ⟨fun E' σ a w' h e=>vH hT h (e []),fun id E' σ a w' h e=>(by cases e []),fun E' σ a w' h e=>vH hT h (e [])⟩
  have DX:Ok E w fn.ntmps c.ins.GG.length E (c.ins.st fn.ntmps v) { tmps:=args++Array.replicate (fn.ntmps-args.size) undef,defers:=[] } w:=by
   have htm:CX (XR E w (I8.mk id c.ins.GG v.2)) (GF.mk id c.ins.Dw v.1 (List.replicate fn.ntmps (.c .undef))) (args++Array.replicate (fn.ntmps-args.size) undef).toList:=by
    rw[Array.toList_append];refine kf (iO hS) (CX.undef ?_);have:=hf.tmps;simp;omega
   refine⟨⟨rfl,htm,hB⟩,fb.refl E w,?_,by simp only[Bc.st];rw[Uo];exact ALj _,fun _ _ _=>⟨rfl,rfl⟩⟩;simp only[Bc.st];rw[CX.len htm];have:=hf.tmps;simp;omega
  exact AA1 hT hΓ hm hp oT (AE1 hT hΓ hm hb (hf.labels code hb) (hJ code hb) hp oT n) DX hn
end
end Go.Fw
end
section
namespace Go.Fw
def D6:List Ty->Ty
 |[]=> .unit
 |c::l=> .cons c (D6 l)
def yG(row:TypeId->Option (List Ty×Bool))(cells:TypeId->Nat):Nat->List Field->Option (List Ty)
 |_,[]=>some []
 |o,f::fs=>
  match row f.type with
  |some (l,_)=>if f.offset=o/\cells f.type=l.length then(yG row cells (o+l.length) fs).map (l++ ·)else none
  |none=>none
def mj:List Ty×Bool->Ty
 |(l,true)=>D6 l
 |([c],false)=>c
 |_=> .unit
def rowOf(P:Program):Nat->TypeId->Option (List Ty×Bool)
 |0,_=>none
 |n+1,t=>
  match P.underlying t with
  |some (.int k)=>some ([.int k],false)
  |some .bool=>some ([.bool],false)
  |some .string=>some ([.str],false)
  |some (.slice e)=>
   match rowOf P n e with
   |some q=>if P.cellsOf e=q.1.length/\0<q.1.length then some ([.sl (mj q)],false)else none
   |none=>none
  |some (.struct fs)=>
   match yG (rowOf P n) P.cellsOf 0 fs.toList with
   |some l=>if P.cellsOf t=l.length then some (l,true)else none
   |none=>none
  |_=>none
def Vd:(t:Ty)->t.D->Prop
 | .int k,x=>(Lit.int k x).wf=true
 | .bool,_=>True
 | .str,x=>List.length x<=maxLen
 | .sl r,x=>List.length x<=maxLen/\ ∀y∈x,Vd r y
 | .unit,_=>True
 | .cons c r,x=>Vd c x.1/\Vd r x.2
theorem ki{α:Type}{p:Nat->α->Prop}:∀{n:Nat},(∀i,i<n-> ∃y,p i y)-> ∃x:List α,x.length=n/\ ∀(i:Nat) y,x[i]? =some y->p i y
 |0,_=>⟨[],rfl,fun i y h=>by simp at h⟩
 |n+1,h=>by
  obtain⟨x,h1,h2⟩:=ki (n:=n) (p:=p) (fun i hi=>h i (by omega));obtain⟨y,hy⟩:=h n (by omega);refine⟨x++[y],by simp[h1],fun i z hz=> ?_⟩;grind
theorem vD{w:World}{B:Nat->Prop}:∀{l m:List Ty} {cs ds:List Value} {x:(D6 l).D} {y:(D6 m).D},Rd w B (D6 l) cs x->Rd w B (D6 m) ds y->Vd (D6 l) x->Vd (D6 m) y->
  ∃z:(D6 (l++m)).D,Rd w B (D6 (l++m)) (cs++ds) z/\Vd (D6 (l++m)) z
 |[],m,cs,ds,x,y,h,k,hx,hy=>by
  simp only[D6,Rd]at h;subst h;exact⟨y,k,hy⟩
 |c::l,m,cs,ds,x,y,h,k,hx,hy=>by
  simp only[D6,Rd]at h;obtain⟨v,r,rfl,h1,h2⟩:=h;obtain⟨z,z1,z2⟩:=vD h2 k hx.2 hy;exact⟨(x.1,z),by simp only[API,D6,Rd];exact⟨v,r++ds,rfl,h1,z1⟩,hx.1,z2⟩
theorem ADy{P:Program}{n:Nat}{t:TypeId}{l:List Ty}(h:rowOf P n t=some (l,false)):∃c,l=[c]:=by
 cases n with
 |zero=>simp[rowOf]at h
 |succ n=>
  simp only[rowOf]at h;grind
theorem w7{w:World}{B:Nat->Prop}{P:Program}{n:Nat}{t:TypeId}{q:List Ty×Bool}(h:rowOf P n t=some q){cs:List Value}{x:(D6 q.1).D}(hx:Rd w B (D6 q.1) cs x)(hv:Vd (D6 q.1) x):
  (mj q).n=q.1.length/\ ∃y:(mj q).D,Rd w B (mj q) cs y/\Vd (mj q) y:=by
 obtain⟨l,b⟩:=q;cases b with
 |true=>
  refine⟨?_,x,hx,hv⟩;clear h hx hv x;simp only[mj]
  induction l with
  |nil=>rfl
  |cons c l ih=>simp[D6,Ty.n,ih]
 |false=>
  obtain⟨c,rfl⟩:=ADy h;simp only[D6,Rd]at hx;obtain⟨v,r,rfl,h1,h2⟩:=hx;subst h2;refine⟨?_,x.1,h1,hv.1⟩;have:=nB h1;grind[mj]
theorem ADM(a:Addr):a.add 0=a:=by rfl
theorem AES{w:World}{a:Addr}{v:Value}(h:w.cell? a=some v):a.spot=none:=by
 unfold World.cell? at h;split at h
 all_goals simp_all
section
variable{H:Type} {enc:TypeId×Value->H} {P:Program} {w:World} {spare:Nat->Bool} {held:Bool}
theorem gL:∀(n:Nat) {t:TypeId} {q:List Ty×Bool},rowOf P n t=some q-> ∀{fuel:Nat} {cs:List Value} {x:DataW H×List MemPlace},DataW.trod enc P w 0 spare held fuel t cs=some x->
  ∃y:(D6 q.1).D,Rd w (fun b=>b<w.heap.size) (D6 q.1) cs y/\Vd (D6 q.1) y
 |0,t,q,h,_,_,_,_=>by simp[rowOf]at h
 |n+1,t,q,h,fuel,cs,x,hx=>by
  simp only[rowOf]at h;split at h
  ·rename_i k hu
   cases h;obtain⟨m,rfl,_,hw⟩:=DataW.trod_int hu hx;exact⟨(m,()),by simp[D6,Rd],hw,trivial⟩
  ·rename_i hu
   cases h;obtain⟨b,rfl,_⟩:=DataW.trod_bool hu hx;exact⟨(b,()),by simp[D6,Rd],trivial,trivial⟩
  ·rename_i hu
   cases h;obtain⟨s,rfl,_,hs⟩:=DataW.trod_string hu hx;refine⟨(s.data.toList,()),by simp[D6,Rd],?_,trivial⟩
   show s.data.toList.length<=maxLen
   simp_all
  ·rename_i e hu
   split at h
   case h_2=>cases h
   rename_i q' hq';split at h
   case isFalse=>cases h
   rename_i AEm;cases h;rcases DataW.trod_slice hu hx with⟨rfl,_⟩|⟨a,len,cap,elems,rest,m,_,rfl,_,_,hlc,hcm,U0,Rz,_,_⟩
   ·refine⟨([],()),?_,⟨by simp,by simp⟩,trivial⟩
    simp only[D6,Rd];simp_all
   ·have each:∀i,i<len-> ∃y:(mj q').D,Vd (mj q') y/\ ∃ds,ds.length=(mj q').n/\(∀j,j<ds.length->w.cell? ((a.add (i*P.cellsOf e)).add j)=ds[j]?)/\Rd w (fun b=>b<w.heap.size) (mj q') ds y:=by
     intro i hi;have hz:elems[i]? =some (elems[i]'(by omega)):=AJA _;have h1:=Rz i hi;rw[hz,AJa]at h1;obtain⟨ds,hds,htr⟩:=h1;obtain⟨z,z1,z2⟩:=gL n hq' htr;obtain⟨_,c1,c2⟩:=World.cells?_some hds
     grind[w7]
    obtain⟨xs,x1,x2⟩:=ki each;refine⟨(xs,()),?_,⟨by grind,fun y hy=> ?_⟩,trivial⟩
    ·simp only[D6,Rd]
     refine⟨_,[],rfl,⟨_,cap,by rw[x1],by omega,?_⟩,rfl⟩;by_cases h0:len=0
     ·omega
     right
     obtain⟨y0,_,ds0,d0,d1,_⟩:=each 0 (by omega);have hn0:0<(mj q').n:=by
      rw[d0.symm];have hz:elems[0]? =some (elems[0]'(by omega)):=AJA _;have h1:=Rz 0 (by omega);rw[hz,AJa]at h1;obtain⟨ds,hds,htr⟩:=h1;obtain⟨z,z1,z2⟩:=gL n hq' htr;grind[w7]
     have hc0:=d1 0 (by omega);simp only[Nat.zero_mul,ADM]at hc0;have yc:w.cell? a=some (ds0[0]'(by omega)):=by simp_all
     have hsp:=AES yc;obtain⟨b,o,s⟩:=a;simp only at hsp;subst hsp;refine⟨b,o,rfl,?_,fun i y hy=> ?_⟩
     ·grind[World.cell?,Array.getElem?_eq_some_iff]
     ·have hil:=(AJM.1 hy).1
      obtain⟨_,ds,e0,e1,e2⟩:=x2 i y hy;have hcn:P.cellsOf e=(mj q').n:=by
       have hz:elems[i]? =some (elems[i]'(by omega)):=AJA _;have h1:=Rz i (by omega);rw[hz,AJa]at h1;obtain⟨ds,hds,htr⟩:=h1;obtain⟨z,z1,z2⟩:=gL n hq' htr;grind[w7]
      refine⟨ds,e0,fun j v hj=> ?_,e2⟩;grind[List.getElem?_eq_some_iff,Addr.add_eq]
    ·obtain⟨i,hi,rfl⟩:=AOq hy
     exact(x2 i _ (AJA hi)).1
  ·rename_i fs hu
   split at h
   case h_2=>cases h
   rename_i l hl;split at h
   case isFalse=>cases h
   rename_i pV;cases h;obtain⟨xs,m,_,_,hlen,hxs,Rz⟩:=DataW.trod_struct hu hx;have key:∀(fs:List Field) (o:Nat) (l:List Ty) (i0:Nat),yG (rowOf P n) P.cellsOf o fs=some l->cs.length=o+l.length->(∀(i:Nat) (f:Field),fs[i]? =some f-> ∃z,DataW.trod enc P w 0 spare held m f.type ((cs.drop f.offset).take (P.cellsOf f.type))=some z)->
     ∃y:(D6 l).D,Rd w (fun b=>b<w.heap.size) (D6 l) (cs.drop o) y/\Vd (D6 l) y:=by
    intro fs
    induction fs with
    |nil=>
     intro o l i0 hl hc _;simp only[yG,AJL]at hl;subst hl;refine⟨(),?_,trivial⟩;simp only[D6,Rd];simp_all
    |cons f fs ih=>
     intro o l i0 hl hc Rz;simp only[yG]at hl;split at hl
     case h_2=>cases hl
     rename_i l1 b1 hr;split at hl
     case isFalse=>cases hl
     rename_i hof;simp only[AJN]at hl;obtain⟨l2,hl2,rfl⟩:=hl;obtain⟨z,hz⟩:=Rz 0 f rfl;obtain⟨y1,a1,a2⟩:=gL n hr hz;obtain⟨y2,b1,b2⟩:=ih (o+l1.length) l2 0 hl2 (by grind) (fun i f hf=>Rz (i+1) f (by simp_all));grind[vD,List.drop_drop,List.take_append_drop]
   have:=key fs.toList 0 l 0 hl (by omega) (fun i f hf=>by
    grind)
   simp_all
  simp_all
end
end Go.Fw
end
section
open Go.RowKit
namespace Go.Fw
def mm(W:World):Env:={ Hg:=fun _=>0,Hi:=fun _=> .nilFunc,T:=fun b=>b<W.heap.size,S:=fun b=>b<W.heap.size }
abbrev rQ:Bc:=⟨[(0,.c (.v .bool))],[]⟩
theorem ADr{P:Program}{f:Nat}{Dw:List (Nat×XP)}{g:Bc.V ⟨Dw,[]⟩->Option rQ.V}(hs:L4 P f ⟨⟨Dw,[]⟩,rQ,g⟩){W:World}{args:Array Value}(x:GF.V Dw)(hlen:args.size=Dw.length)(hgi:∀w':World,(∀c,c<W.heap.size->w'.heap[c]? =W.heap[c]?)->GI w')
  (hx:Mm (mm W) W [] id Dw x args.toList) (hg:g (x,())=some ((true,()),())):Calls P f args W fun e W' =>e= .returned (.bool true)/\Below W.heap.size W W':=by
 obtain⟨_,_,h⟩:=hs;refine(h (mm W) W (x,()) args _ hlen ⟨[],⟨rfl,fun k B F h=>by simp[I8.mk]at h⟩,by simp,by simp,by simp,fun _ h=>h,fun _ h=>h,hgi⟩ hx hg).mono fun e W' hR=> ?_
 obtain⟨v,E',rfl,base,_,⟨⟨v',hv,hxr⟩,_⟩,_⟩:=hR;simp at hv;subst hv;have:v= .bool true:=by
  have h2:VR E' W' [] (.v .bool true) v:=hxr;exact TT h2
 subst this;exact⟨rfl,base.os,base.tape,base.output,base.size,fun k hk=>base.heap k hk⟩
theorem AGU{W:World}{vw:List Bx}{l:List Ty}(hl:l.all Ty.cell=true){cs:Array Value}{y:(D6 l).D}(h:Rd W (fun b=>b<W.heap.size) (D6 l) cs.toList y):XR (mm W) W vw (XP.mk id (.row (D6 l)) y) (.agg cs):=by
 refine⟨cs,rfl,?_⟩;have key:∀(l:List Ty) (cs:List Value) (y:(D6 l).D),l.all Ty.cell=true->Rd W (fun b=>b<W.heap.size) (D6 l) cs y->jy (mm W) W vw (lA (D6 l) y) cs:=by
  intro l
  induction l with
  |nil=>
   intro cs y _ h;simp only[D6,Rd]at h;subst h
   trivial
  |cons c l ih=>
   intro cs y hc h;simp only[APD,AJR]at hc;simp only[D6,Rd]at h;obtain⟨v,r,rfl,h1,h2⟩:=h;refine⟨?_,ih r y.2 hc.2 h2⟩;cases c with
   |sl q=>exact h1
   |int k=>exact⟨rfl,by simpa[Rd]using h1⟩
   |bool=>exact⟨rfl,by simpa[Rd]using h1⟩
   |str=>exact⟨rfl,by simpa[Rd]using h1⟩
   |unit=>simp[Ty.cell]at hc
   |cons c r=>simp[Ty.cell]at hc
 simp_all
theorem AMN{W:World}{vw:List Bx}{t:Ty}(ht:t.scalar=true){v:Value}{y:t.D}(h:Rd W (fun b=>b<W.heap.size) t [v] y):XR (mm W) W vw (XP.mk id (.c (.v t)) y) v:=by
 refine⟨ht,?_⟩;cases t<;>simp_all[Ty.scalar,Rd]
end Go.Fw
end
section
namespace Go.Fw
def Ry:List (Nat×Qv)->Nat->Option Qv
 |[],_=>none
 |(f,c)::l,g=>if f=g then some c else Ry l g
def AHv(P:Program):List (Nat×Qv)->Prop
 |[]=>True
 |q::l=>L4 P q.1 q.2/\AHv P l
theorem i6{P:Program}:∀{l:List (Nat×Qv)},AHv P l->jT P (Ry l)
 |[],_=>fun f c e=>by cases e
 |(g,d)::l,h=>fun f c e=>by
  simp only[Ry]at e;split at e
  ·rename_i hg
   cases e;subst hg;exact h.1
  ·exact i6 h.2 f c e
theorem YA{P:Program}{f:Nat}{fn:Func}(hf:P.funcs[f]? =some fn)(hn:(fn.name== "runtime.NumGoroutine")=false)(hb:fn.body.isNone=false)(args:Array Value)(w:World):
  (callFunc f args).run P w= .ok (.enter f args) w:=by
 have h1:fn.name≠ "runtime.NumGoroutine" :=by simp_all
 have h2:fn.body≠none:=by
  grind
 simp[callFunc,hf,h1,h2]
def gK(fn:Func)(c:Qv):Bool:=
 !(
  fn.name== "runtime.NumGoroutine")&& !fn.body.isNone&&c.ok&&decide (c.ins.Dw.length<=fn.ntmps)&&(match fn.body with
  |some code=>decide (labels code).Nodup
  |none=>true)
theorem AP3{P:Program}{f:Nat}{fn:Func}{c:Qv}(hf:P.funcs[f]? =some fn)(h:gK fn c=true):ARS P f fn c:=by
 simp only[gK,AJR,APE,AJr]at h;obtain⟨⟨⟨⟨h1,h2⟩,h3⟩,h4⟩,h5⟩:=h;refine⟨hf,YA hf h1 h2,h3,h4,fun code hc=> ?_⟩;simp_all
def fX(C:cQ)(c:Qv)(fn:Func)(J:Nat->Nat->St->Option c.outs.V):List Nat->Prop
 |[]=>True
 | ℓ ::l=>(∃(s:Bc) (F:Nat->s.V->Option c.outs.V),(∀n,J n ℓ =jump c.ins.GG.length s (F n))/\(∀v,F 0 v=none)/\
  ∀n v,∀ω,Ke C c fn (J n) ℓ ω (s.st fn.ntmps v)=F (n+1) v)/\fX C c fn J l
theorem fX.ok{C:cQ}{c:Qv}{fn:Func}{J:Nat->Nat->St->Option c.outs.V}:∀{l:AAc},fX C c fn J l-> ∀ ℓ ∈l,∃(s:Bc) (F:Nat->s.V->Option c.outs.V),(∀n,J n ℓ =jump c.ins.GG.length s (F n))/\(∀v,F 0 v=none)/\
  ∀n v y,F (n+1) v=some y-> ∀ω,Ke C c fn (J n) ℓ ω (s.st fn.ntmps v)=some y
 |[],_,ℓ,h=>by cases h
 |k::l,hl,ℓ,h=>by
  rcases ALa.1 h with rfl|h
  ·obtain⟨⟨s,F,h1,h2,h3⟩,_⟩:=hl
   exact⟨s,F,h1,h2,fun n v y e ω=>(h3 n v ω).trans e⟩
  ·exact fX.ok hl.2 ℓ h
def bg(fn:Func):AAc:=
 match fn.body with
 |some code=>labels code
 |none=>[]
def CV:List AEc->Nat->List Nat
 |[],_=>[]
 |(r,h)::l,q=>if r=q then h else CV l q
theorem AGn{P:Program}{T:JR}{l:List (Nat×Qv)}{hint:Nat->List Nat}{f:Nat}{fn:Func}{c:Qv}(hT:ES P T)(hm:P.follows .mixedOrders=true)(hf:P.funcs[f]? =some fn)(hl:AHv P l)(hc:gK fn c=true)
  {J:Nat->Nat->St->Option c.outs.V} {L:AAc} (hL:bg fn=L) (hJ:fX ⟨T,Ry l,hint⟩ c fn J L) (n:Nat) (he:∀ω v,DB ⟨T,Ry l,hint⟩ c fn (J n) ω v=c.g v):L4 P f c:=
 y7 (C:=⟨T,Ry l,hint⟩) hT (i6 hl) hm (AP3 hf hc) (J:=J) (fun code hb ℓ hℓ =>fX.ok hJ ℓ (by
  grind[bg])) fun v u hg=>⟨n,fun ω=>(he ω v).trans hg⟩
end Go.Fw
end
section
namespace Go.M
abbrev Cm:Nat:=Go.Fw.Cm
def AW(x:Int):Int:=IntKind.wrap .i64 x
def w8(x:Int):Int:=IntKind.wrap .u8 x
def tO(κ:IntKind)(a b:Int):Int:=κ.wrap (BitVec.ofInt κ.bits a &&& BitVec.ofInt κ.bits b).toNat
theorem rG:∃n:Nat,2^64<=n:=⟨_,ALj _⟩
noncomputable def AX:Nat:=Classical.choose rG
theorem Uw:2^64<=AX:=Classical.choose_spec rG
def z6{α:Type}(p:Int)(v l:List α):Option (List α):=if 0<=p/\p<=(l.length:Int)/\l.length+v.length<=Cm then some (l.take p.toNat++v++l.drop p.toNat)else none
def AFe{α:Type}(p q:Int)(l:List α):Option (List α):=if 0<=p/\p<=q/\q<=(l.length:Int)then some (l.take p.toNat++l.drop q.toNat)else none
end Go.M
end
section
namespace Go.Fw
structure SP (P:Program) where
 f:Nat
 c:Qv
 h:L4 P f c
def SP.l{P:Program}:List (SP P)->List (Nat×Qv)
 |[]=>[]
 |s::l=>(s.f,s.c)::SP.l l
theorem xS{P:Program}:∀l:List (SP P),AHv P (SP.l l)
 |[]=>trivial
 |s::l=>⟨s.h,xS l⟩
@[reducible] def AP.Cu (R:Type):AP->Type
 | .ta _ rs=>bD rs->R
 | .v t=>t.D->R
 | .sl _ r=>List r.D->R
 | .pT r=>r.D->R
 | .mH _ _=>Nat×Nat->R
 |_=>R
def AP.un{R:Type}:(p:AP)->p.Cu R->p.V->R
 | .ta _ _,f,x=>f x
 | .v _,f,x=>f x
 | .sl _ _,f,x=>f x
 | .pT _,f,x=>f x
 | .mH _ _,f,x=>f x
 | .nil,f,_=>f
 | .ref _,f,_=>f
 | .ptr _ _,f,_=>f
 | .fn _ _,f,_=>f
 | .any,f,_=>f
@[reducible] def ZL.Cu (R:Type):List AP->Type
 |[]=>R
 |p::l=>p.Cu (ZL.Cu R l)
def ZL.un{R:Type}:(l:List AP)->ZL.Cu R l->ZL.V l->R
 |[],f,_=>f
 |p::l,f,x=>ZL.un l (p.un f x.1) x.2
@[reducible] def Zi.Cu (R:Type):List (AP ⊕ List AP)->Type
 |[]=>R
 | .inl p::l=>p.Cu (Zi.Cu R l)
 | .inr q::l=>ZL.Cu (Zi.Cu R l) q
def Zi.un{R:Type}:(l:List (AP ⊕ List AP))->Zi.Cu R l->Zi.V l->R
 |[],f,_=>f
 | .inl p::l,f,x=>Zi.un l (p.un f x.1) x.2
 | .inr q::l,f,x=>Zi.un l (ZL.un q f x.1) x.2
@[reducible] def XP.Cu (R:Type):XP->Type
 | .c p=>p.Cu R
 | .agg l=>ZL.Cu R l
 | .row r=>r.D->R
 | .MA l=>Zi.Cu R l
def XP.un{R:Type}:(p:XP)->p.Cu R->p.V->R
 | .c p,f,x=>p.un f x
 | .agg l,f,x=>ZL.un l f x
 | .row _,f,x=>f x
 | .MA l,f,x=>Zi.un l f x
@[reducible] def BP.Cu (R:Type):BP->Type
 | .mem l=>ZL.Cu R l
 | .sl _ r=>List r.D->R
 | .gone=>R
def BP.un{R:Type}:(p:BP)->p.Cu R->p.V->R
 | .mem l,f,x=>ZL.un l f x
 | .sl _ _,f,x=>f x
 | .gone,f,_=>f
@[reducible] def GF.Cu (R:Type):List (Nat×XP)->Type
 |[]=>R
 |(_,p)::l=>p.Cu (GF.Cu R l)
def GF.un{R:Type}:(l:List (Nat×XP))->GF.Cu R l->GF.V l->R
 |[],f,_=>f
 |(_,p)::l,f,x=>GF.un l (p.un f x.1) x.2
@[reducible] def I8.Cu (R:Type):List BP->Type
 |[]=>R
 |p::l=>p.Cu (I8.Cu R l)
def I8.un{R:Type}:(l:List BP)->I8.Cu R l->I8.V l->R
 |[],f,_=>f
 |p::l,f,x=>I8.un l (p.un f x.1) x.2
@[reducible] def Bc.Cu (s:Bc) (R:Type):Type:=GF.Cu (I8.Cu R s.GG) s.Dw
def Bc.un{R:Type}(s:Bc)(f:s.Cu R)(v:s.V):R:=I8.un s.GG (GF.un s.Dw f v.1) v.2
structure Lp (o:Bc) where
 ℓ :Nat
 s:Bc
 F:Nat->s.Cu (Option o.V)
def M3{o:Bc}(nb:Nat):List (Lp o)->Nat->Nat->St->Option o.V
 |[],_,_,_=>none
 |p::l,n,ℓ,σ=>if ℓ =p.ℓ then jump nb p.s (p.s.un (p.F n)) σ else M3 nb l n ℓ σ
inductive Um (C:cQ) (c:Qv) (fn:Func) (J:Nat->Nat->St->Option c.outs.V):List (Lp c.outs)->Prop
 |nil:Um C c fn J []
 |cons {ℓ :Nat} {s:Bc} {F:Nat->s.Cu (Option c.outs.V)} {l:List (Lp c.outs)} (h0:∀v,s.un (F 0) v=none) (h1:∀n v ω,Ke C c fn (J n) ℓ ω (s.st fn.ntmps v)=s.un (F (n+1)) v) (h:Um C c fn J l):Um C c fn J (⟨ℓ,s,F⟩::l)
def Lp.ls{o:Bc}:List (Lp o)->List Nat
 |[]=>[]
 |p::l=>p.ℓ ::Lp.ls l
theorem AFS{o:Bc}{nb:Nat}:∀{l:List (Lp o)} (n:Nat) {ℓ :Nat} (p:Lp o) (pre:List (Lp o)),ℓ =p.ℓ ->(Lp.ls (pre++p::l)).Nodup->M3 nb (pre++p::l) n ℓ =jump nb p.s (p.s.un (p.F n))
 |l,n,ℓ,p,[],e,_=>by
  funext σ
  simp[M3,e]
 |l,n,ℓ,p,q::pre,e,hn=>by
  funext σ
  have hq: ℓ ≠q.ℓ :=by
   intro h;simp only[API,Lp.ls,AS4]at hn;refine hn.1 ?_
   rw[<-h,e];clear hn h e
   induction pre with
   |nil=>simp[Lp.ls]
   |cons a m ih=>simp[Lp.ls,ih]
  have:=congrFun (AFS (nb:=nb) (l:=l) n p pre e (by grind[Lp.ls,List.nodup_cons])) σ;simp only[API,M3,AJD hq];omega
theorem Um.ok{C:cQ}{c:Qv}{fn:Func}{nb:Nat}(hb:nb=c.ins.GG.length){L:List (Lp c.outs)}(hn:(Lp.ls L).Nodup):∀{l pre:List (Lp c.outs)},L=pre++l->Um C c fn (M3 nb L) l->fX C c fn (M3 nb L) (Lp.ls l)
 |[],_,_,_=>trivial
 |⟨ℓ,s,F⟩::l,pre,e,.cons h0 h1 h=>by
  refine⟨⟨s,fun n=>s.un (F n),fun n=> ?_,h0,fun n v ω=>h1 n v ω⟩,Um.ok hb hn (pre:=pre++[⟨ℓ,s,F⟩]) (by simp[e]) h⟩;subst hb;rw[e];exact AFS n ⟨ℓ,s,F⟩ pre rfl (by simp_all)
def mkP{P:Program}{T:JR}(hT:ES P T)(hm:P.follows .mixedOrders=true){f:Nat}{fn:Func}(hf:P.funcs[f]? =some fn)(i o:Bc)(g:i.Cu (Option o.V))(l:List (SP P))(h:List AEc)(L:List (Lp o))(n:Nat)
  (hL:bg fn=Lp.ls L) (hd:decide (Lp.ls L).Nodup=true) (hc:gK fn ⟨i,o,i.un g⟩=true)
  (hJ:Um ⟨T,Ry (SP.l l),CV h⟩ ⟨i,o,i.un g⟩ fn (M3 i.GG.length L) L)
  (he:∀ω v,DB ⟨T,Ry (SP.l l),CV h⟩ ⟨i,o,i.un g⟩ fn (M3 i.GG.length L n) ω v=i.un g v):SP P:=
 ⟨f,⟨i,o,i.un g⟩,AGn (l:=SP.l l) hT hm hf (xS l) hc (J:=M3 i.GG.length L) (L:=Lp.ls L) hL (Um.ok rfl (by simpa using hd) (pre:=[]) rfl hJ) n he⟩
def AXk{P:Program}{T:JR}(hT:ES P T)(hm:P.follows .mixedOrders=true){f:Nat}{fn:Func}(hf:P.funcs[f]? =some fn)(i o:Bc)(g:i.Cu (Option o.V))(l:List (SP P))(h:List AEc)(L:List (Lp o))(n:Nat)
  (hL:bg fn=Lp.ls L) (hd:decide (Lp.ls L).Nodup=true) (hc:gK fn ⟨i,o,i.un g⟩=true)
  (hJ:Um ⟨T,Ry (SP.l l),CV h⟩ ⟨i,o,i.un g⟩ fn (M3 i.GG.length L) L)
  (he:∀ω v u,i.un g v=some u->DB ⟨T,Ry (SP.l l),CV h⟩ ⟨i,o,i.un g⟩ fn (M3 i.GG.length L n) ω v=some u):SP P:=
 ⟨f,⟨i,o,i.un g⟩,y7 (C:=⟨T,Ry (SP.l l),CV h⟩) hT (i6 (xS l)) hm (AP3 hf hc) (J:=M3 i.GG.length L) (fun code hb ℓ hℓ =>fX.ok (Um.ok (nb:=i.GG.length) rfl (by simpa using hd) (pre:=[]) rfl hJ) ℓ (by
  rw[<-hL];simp only[bg,hb];exact hℓ)) fun v u hg=>⟨n,fun ω=>he ω v u hg⟩⟩
theorem AE{Q:List Bool->Prop}(a:Q [])(b:∀ω,Q (false::ω))(d:∀ω,Q (true::ω)):∀ω,Q ω
 |[]=>a
 |false::ω=>b ω
 |true::ω=>d ω
end Go.Fw
end
section
namespace Go.Fw
open Go.Proofs Go.Shelf Go.RowKit Go.Lib
structure fG (P:Program) (ρ:Ren) (nm:String) (fv:Func):Prop where
 mixed:P.follows .mixedOrders=true
 f22:P.funcs[ρ.f 22]? =some { Body2.n22 ρ with name:=nm }
 n22:(nm== "runtime.NumGoroutine")=false
 f29:P.funcs[ρ.f 29]? =some fv
 n29:(fv.name== "runtime.NumGoroutine")=false
 b29:fv.body.isNone=true
 e29:Extern.findNext fv=none
 x29:Extern.find fv=some (Extern.SlicesOverlaps.overlaps #[(ρ.t 24),(ρ.t 24)] #[(ρ.t 4)])
 t0:P.underlying (ρ.t 0)=some (TypeDesc.tuple #[])
 a0:∀w,(isAgg (ρ.t 0)).run P w= .ok false w
 z0:∀w,(Go.sizeOf (ρ.t 0)).run P w= .ok 1 w
 v0:∀w,(zeroValue (ρ.t 0)).run P w= .ok (Value.tuple #[]) w
 t3:P.underlying (ρ.t 3)=some (TypeDesc.int IntKind.i64)
 a3:∀w,(isAgg (ρ.t 3)).run P w= .ok false w
 z3:∀w,(Go.sizeOf (ρ.t 3)).run P w= .ok 1 w
 v3:∀w,(zeroValue (ρ.t 3)).run P w= .ok (Value.int IntKind.i64 0) w
 t4:P.underlying (ρ.t 4)=some (TypeDesc.bool)
 a4:∀w,(isAgg (ρ.t 4)).run P w= .ok false w
 z4:∀w,(Go.sizeOf (ρ.t 4)).run P w= .ok 1 w
 v4:∀w,(zeroValue (ρ.t 4)).run P w= .ok (Value.bool false) w
 t24:P.underlying (ρ.t 24)=some (TypeDesc.slice (ρ.t 9))
 a24:∀w,(isAgg (ρ.t 24)).run P w= .ok false w
 z24:∀w,(Go.sizeOf (ρ.t 24)).run P w= .ok 1 w
 v24:∀w,(zeroValue (ρ.t 24)).run P w= .ok (Value.slice none 0 0) w
section
variable{P:Program} {ρ:Ren} {nm:String} {fv:Func}
theorem dV{w:World}{dT sT ty elem:TypeId}{i0:TypeInfo}{b o AQ4 AXx WY kV n:Nat}{a:Option Addr}{cs:List Value}(hu:P.underlying dT=some (.slice elem))(hi:P.info? elem=some i0)(hn:n=Nat.min WY AQ4)
  (AOM:∀W:World,W=w->(Builtin.firstCells i0.size n (.slice a WY kV)).run P W= .ok cs.toArray W) (sj:w.there b o cs.length) (h1:∀v∈cs,v.oneCell' =true):
  (Builtin.copy_ #[dT,sT] ty #[.slice (some ⟨b,o,none⟩) AQ4 AXx,.slice a WY kV]).run P w= .ok (goInt n) (w.setCells b o cs):=by
 have tY:=run_storeCells_cells (P:=P) b o cs 0 w (by simpa using fun j hj=>(sj j hj).1) (by simpa using fun j hj=>(sj j hj).2) h1;rw[APL]at tY;have:=AOM w rfl;simp[Builtin.copy_,run_underlying hu,Builtin.lenOf,sizeOf,typeInfo,hi,<-hn,this,tY]
set_option maxHeartbeats 4000000 in
set_option maxRecDepth 100000 in
theorem AGP(L:fG P ρ nm fv){k:Nat}(z9:∀w,(Go.sizeOf (ρ.t 9)).run P w= .ok k w)(ad:Option Addr)(n c i:Nat)(va:Option Addr)(vc:Nat)(w:World)(hi:i<=n)(hnc:n<=c):
  Calls P (ρ.f 22) #[.slice ad n c,.int .i64 i,.slice va 0 vc] w fun e w' =>e= .returned (.slice ad n c)/\w' =w:=by
 have t0:=L.t0;have a0:=L.a0;have z0:=L.z0;have v0:=L.v0;have t3:=L.t3;have a3:=L.a3;have z3:=L.z3;have v3:=L.v3;have t4:=L.t4;have a4:=L.a4;have z4:=L.z4;have v4:=L.v4;have t24:=L.t24;have a24:=L.a24;have z24:=L.z24;have v24:=L.v24;have u0:=run_underlying L.t0;have u3:=run_underlying L.t3;have u4:=run_underlying L.t4;have o9:=run_underlying L.t24;have mixed:=L.mixed
 go_enter L.f22,Body2.n22_ntmps ρ
 cases ad with
 |none=>
  go_wp2
  go_ret
  exact⟨rfl,rfl⟩
 |some a=>
  obtain⟨ab,ao,asp⟩:=a
  go_wp2
  all_goals (go_ret;exact⟨rfl,rfl⟩)
theorem mf{w:World}(tS tR e:TypeId)(ht:P.underlying tS=some (.slice e))(size:Nat)(hz:∀w,(Go.sizeOf e).run P w= .ok size w)
  (a b:Addr) (la ca lb cb:Nat) (WJ:a.block≠b.block) (tA tB:TypeId) (kA kB:Nat)
  (hsa:w.shape? a.block=some (tA,kA)) (hsb:w.shape? b.block=some (tB,kB)) (hkA:kA≠0)
  (hfb:w.frozen? b=false) (hfe:w.frozen? { block:=b.block,off:=kB }=false):
  (Extern.SlicesOverlaps.overlaps #[tS,tS] #[tR] #[.slice (some a) la ca,.slice (some b) lb cb]).run P w= .ok (.bool false) w:=by
 have qY:(a.block !=b.block)=true:=by simp_all
 have AVi:(a.block==b.block)=false:=by simp_all
 change Sem.run P (α:=Value) (do
  let some t:=(#[tS,tS]:Array TypeId)[0]?|stuck "slices.overlaps: no parameter types"
  let .slice elem<-underlying t|stuck "slices.overlaps: slice type expected"
  let size<-sizeOf elem
  match(some a:Option Addr),(some b:Option Addr)with
  |some a,some b=>
   if la=0\/lb=0\/size=0 then pure (Value.bool false)
   else if a.block !=b.block&&(<-frozen a)&&(<-frozen b)then unsupported .addressObserved
   else do
    if a.block !=b.block then do
     noView a;noView b
     if<-mayBeOne a b then return Value.bool ((<-choose (.extern "sameAddr.stringBytes" 2))==1)
    pure (Value.bool (a.block==b.block&&a.off<b.off+lb*size&&b.off<a.off+la*size))
  |_,_=>pure (Value.bool false)) w=_
 by_cases h0:la=0\/lb=0\/size=0
 ·simp[run_underlying ht,hz,h0]
 ·cases kA with
  |zero=>omega
  |succ kA=>
   cases hfa:w.frozen? a<;>cases hfae:w.frozen? { block:=a.block,off:=kA+1 }<;>
    simp[run_underlying ht,hz,h0,qY,AVi,frozen,noView,viewAt,mayBeOne,stringish,shape,Sem.run,hsa,hsb,hfb,hfe,hfa,hfae]
set_option maxHeartbeats 4000000 in
set_option maxRecDepth 100000 in
theorem ADs(L:fG P ρ nm fv){i0:TypeInfo}(xm:P.info? (ρ.t 9)=some i0)(hs0:0<i0.size)(b off n c i:Nat)(va:Addr)(m vc:Nat)(cs vs:List Value)(w:World)(hi:i<n)(hm:0<m)(T7:n+m<=c)(ZR:n+m<=Cm)(hvb:va.block≠b)
  (pV:cs.length=n*i0.size) (hvl:vs.length=m*i0.size) (yc:Be w b off cs) (sj:w.there b off ((n+m)*i0.size))
  (WN:∀W:World,W.heap[va.block]? =w.heap[va.block]?->(Builtin.firstCells i0.size m (.slice (some va) m vc)).run P W= .ok vs.toArray W) (h1c:∀v∈cs,v.oneCell' =true) (h1v:∀v∈vs,v.oneCell' =true)
  (tA tB:TypeId) (kA kB:Nat) (hsa:w.shape? va.block=some (tA,kA)) (hsb:w.shape? b=some (tB,kB)) (hkA:kA≠0) (hfe:w.frozen? ⟨b,kB,none⟩=false):
  Calls P (ρ.f 22) #[.slice (some ⟨b,off,none⟩) n c,.int .i64 i,.slice (some va) m vc] w fun e w' =>
   e= .returned (.slice (some ⟨b,off,none⟩) (n+m) c)/\ ∃W:World,W.heap=w.heap/\Grown w W/\w' =(W.setCells b (off+(i+m)*i0.size) (cs.drop (i*i0.size))).setCells b (off+i*i0.size) vs:=by
 have t0:=L.t0;have a0:=L.a0;have z0:=L.z0;have v0:=L.v0;have t3:=L.t3;have a3:=L.a3;have z3:=L.z3;have v3:=L.v3;have t4:=L.t4;have a4:=L.a4;have z4:=L.z4;have v4:=L.v4;have t24:=L.t24;have a24:=L.a24;have z24:=L.z24;have v24:=L.v24;have u0:=run_underlying L.t0;have u3:=run_underlying L.t3;have u4:=run_underlying L.t4;have o9:=run_underlying L.t24;have z9:∀w,(Go.sizeOf (ρ.t 9)).run P w= .ok i0.size w:=fun w=>by simp[sizeOf,typeInfo,xm]
 have mixed:=L.mixed;have AEh:=ZR;simp only[Cm]at AEh;have hz1: ¬((m:Int)=0):=by omega
 have hz2: ¬((i:Int)=(n:Int)):=by omega
 generalize hk:i0.size=k at*
 have hmul:(i+m)*k<=(n+m)*k:=ALR _ (by omega);have AFB:i*k<=n*k:=ALR _ (by omega);have IQ:(i+m)*k<(n+m)*k:=Nat.mul_lt_mul_of_pos_right (by omega) hs0;have hnm:(n+m)*k=n*k+m*k:=APH ..;have him:(i+m)*k=i*k+m*k:=APH ..;have hov:∀lb cb,(callFunc (ρ.f 29) #[.slice (some va) m vc,.slice (some ⟨b,off+(i+m)*k,none⟩) lb cb]).run P w= .ok (.value (.bool false)) w:=fun lb cb=>by
  rw[run_callFunc_extern L.f29 L.n29 L.b29 L.e29 L.x29,
   mf (ρ.t 24) (ρ.t 4) (ρ.t 9) L.t24 k z9 va ⟨b,off+(i+m)*k,none⟩ m vc lb cb hvb tA tB kA kB hsa hsb hkA (sj _ IQ).2 hfe]
  rfl
 have hdl:(cs.drop (i*k)).length=(n-i)*k:=by rw[ASm,pV,ASQ]
 have hw1:IntKind.i64.wrap ((i:Int)+(m:Int))=(i:Int)+(m:Int):=by rw[IntKind.wrap_i64];omega
 have hb1:(0:Int)<=(i:Int)+(m:Int):=by omega
 have Pu:i<=n:=by omega
 have htn:((i:Int)+(m:Int)).toNat=i+m:=by omega
 have hb2: ¬(c=i+m):=by omega
 have hb3:(i:Int)<=(n:Int)+(m:Int):=by omega
 have hb4: ¬(c=i):=by omega
 have AS2:∀ty dc sc,(Builtin.copy_ #[(ρ.t 24),(ρ.t 24)] ty #[.slice (some ⟨b,off+(i+m)*k,none⟩) (n+m-(i+m)) dc,.slice (some ⟨b,off+i*k,none⟩) (n+m-i) sc]).run P w.drew= .ok (goInt (n-i:Nat)) (w.drew.setCells b (off+(i+m)*k) (cs.drop (i*k))):=fun ty dc sc=>
  dV (n:=n-i) L.t24 xm (by simp only[Nat.min_def];split<;>omega) (fun W hW=>by
   subst hW;simp only[Builtin.firstCells,hk];have hl:Be w.drew b (off+i*k) (cs.drop (i*k)):=fun j v hj=>by
    rw[AP4]at hj;have:=yc _ v hj
    rwa [<-APN]at this
   rw[<-hdl];exact Lm hl) (fun j hj=>by
    rw[hdl]at hj;have:(i+m)*k+j<(n+m)*k:=by
     rw[hnm,him];have:(n-i)*k=n*k-i*k:=ASQ ..;omega
    have:=sj _ this;rw[<-APN]at this;exact this) (fun v hv=>h1c v (AR2 hv))
 obtain⟨W1,hW1⟩:∃W1,W1=w.drew.setCells b (off+(i+m)*k) (cs.drop (i*k)):=⟨_,rfl⟩;have AWV:W1.heap[va.block]? =w.heap[va.block]?:=by rw[hW1];exact DM _ _ _ _ _ hvb
 have AK5:W1.there b (off+i*k) vs.length:=fun j hj=>by
  rw[hvl]at hj;have h0:=sj (i*k+j) (by omega);rw[<-APN]at h0;rw[hW1];refine⟨?_,?_⟩
  ·refine isSome_setCells b _ _ _ (fun t ht=> ?_) _ h0.1
   rw[hdl]at ht;have h2:(i+m)*k+t<(n+m)*k:=by
    rw[hnm,him];have:(n-i)*k=n*k-i*k:=ASQ ..;omega
   have:=(sj _ h2).1;rw[<-APN]at this;exact this
  ·rw[World.frozen?_setCells]
   exact h0.2
 have AVV:∀(W:World),(∀x,W.cell? x=W1.cell? x)->(∀x,W.frozen? x=W1.frozen? x)->W.heap=W1.heap-> ∀ty dc,(Builtin.copy_ #[(ρ.t 24),(ρ.t 24)] ty #[.slice (some ⟨b,off+i*k,none⟩) (n+m-i) dc,.slice (some va) m vc]).run P W= .ok (goInt m) (W.setCells b (off+i*k) vs):=fun W hWc hWf vg ty dc=>
  dV (n:=m) L.t24 xm (by simp only[Nat.min_def];split<;>omega) (fun V hV=>by subst hV;rw[hk];exact WN _ (by rw[vg];exact AWV)) (fun j hj=>⟨by rw[hWc];exact(AK5 j hj).1,by rw[hWf];exact(AK5 j hj).2⟩) h1v
 rw[<-hW1]at AS2;obtain⟨vab,vao,vas⟩:=va;clear hmul AFB IQ hnm him sj AK5 yc hdl
 go_enter L.f22,Body2.n22_ntmps ρ
 go_wp2_with (simp only[hov])
 go_region_law_o (refine step_copy_runI rfl _ _ (ρ.t 24) (ρ.t 24) rfl _ _ (by simp[Act.eval,Act.put]) (by simp[Act.eval,Act.put]) (AS2 _ _ _) ?_)
 go_wp2_with (at_builtin;refine wpList_copy_runI _ rfl _ _ (ρ.t 24) (ρ.t 24) rfl _ _ rfl rfl (AVV _ (fun _=>rfl) (fun _=>rfl) rfl _ _) ?_)
 go_ret
 first|exact⟨rfl,_,rfl,⟨rfl,rfl,rfl,ALj _⟩,rfl⟩|exact⟨rfl,w.drew,rfl,⟨rfl,rfl,rfl,ALj _⟩,by first|rfl|rw[hW1]⟩
set_option maxHeartbeats 4000000 in
set_option maxRecDepth 100000 in
theorem AEz(L:fG P ρ nm fv){i0:TypeInfo}(xm:P.info? (ρ.t 9)=some i0)(b off n c:Nat)(va:Addr)(m vc:Nat)(vs:List Value)(w:World)(hm:0<m)(T7:n+m<=c)
  (sj:w.there b (off+n*i0.size) vs.length) (hn:nc P w i0.size m (.slice (some va) m vc) vs) (h1v:∀v∈vs,v.oneCell' =true):
  Calls P (ρ.f 22) #[.slice (some ⟨b,off,none⟩) n c,.int .i64 n,.slice (some va) m vc] w fun e w' =>
   e= .returned (.slice (some ⟨b,off,none⟩) (n+m) c)/\w' =w.setCells b (off+n*i0.size) vs:=by
 have t0:=L.t0;have a0:=L.a0;have z0:=L.z0;have v0:=L.v0;have t3:=L.t3;have a3:=L.a3;have z3:=L.z3;have v3:=L.v3;have t4:=L.t4;have a4:=L.a4;have z4:=L.z4;have v4:=L.v4;have t24:=L.t24;have a24:=L.a24;have z24:=L.z24;have v24:=L.v24;have u0:=run_underlying L.t0;have u3:=run_underlying L.t3;have u4:=run_underlying L.t4;have o9:=run_underlying L.t24;have z9:∀w,(Go.sizeOf (ρ.t 9)).run P w= .ok i0.size w:=fun w=>by simp[sizeOf,typeInfo,xm]
 have mixed:=L.mixed;have hz1: ¬((m:Int)=0):=by omega
 have mV:∀ty,(Builtin.append_ #[(ρ.t 24),(ρ.t 24)] ty #[.slice (some ⟨b,off,none⟩) n c,.slice (some va) m vc]).run P w=_:=fun ty=>
  iP (ts:= #[(ρ.t 24),(ρ.t 24)]) (ty:=ty) rfl rfl L.t24 (.inl ⟨_,L.t24⟩) xm rfl hn T7 sj h1v
 clear sj hn
 generalize hk:i0.size=k at*
 obtain⟨vab,vao,vas⟩:=va
 go_enter L.f22,Body2.n22_ntmps ρ
 go_wp2_with (at_builtin;refine Lib.wpList_append_run _ rfl _ _ (ρ.t 24) (ρ.t 24) rfl _ _ rfl rfl _ _ (mV _) ?_)
 go_ret
 exact⟨rfl,rfl⟩
set_option maxHeartbeats 4000000 in
set_option maxRecDepth 100000 in
theorem AFN(L:fG P ρ nm fv){i0:TypeInfo}{z:Value}(xm:P.info? (ρ.t 9)=some i0)(hz:i0.zero=some z)(hby:i0.bytes<=512)(ad:Option Addr)(n c:Nat)(va:Addr)(m vc:Nat)(cs vs:List Value)(w:World)(hm:0<m)(hnc:n<=c)(T7:c<n+m)(ZR:n+m<=Cm)
  (ho:∀w',w'.heap=w.heap->(Builtin.firstCells i0.size n (.slice ad n c)).run P w' = .ok cs.toArray w') (hn:nc P w i0.size m (.slice (some va) m vc) vs):
  Calls P (ρ.f 22) #[.slice ad n c,.int .i64 n,.slice (some va) m vc] w fun e w' =>
   e= .returned (.slice (some ⟨w.heap.size,0,none⟩) (n+m) (grownCap w (n+m) c (ρ.t 9)))/\
   w' =w.drew.alloc (.cells (cs.toArray++vs.toArray++Builtin.zeroCells z.cells (grownCap w (n+m) c (ρ.t 9)-(n+m))) (ρ.t 9)):=by
 have t0:=L.t0;have a0:=L.a0;have z0:=L.z0;have v0:=L.v0;have t3:=L.t3;have a3:=L.a3;have z3:=L.z3;have v3:=L.v3;have t4:=L.t4;have a4:=L.a4;have z4:=L.z4;have v4:=L.v4;have t24:=L.t24;have a24:=L.a24;have z24:=L.z24;have v24:=L.v24;have u0:=run_underlying L.t0;have u3:=run_underlying L.t3;have u4:=run_underlying L.t4;have o9:=run_underlying L.t24;have z9:∀w,(Go.sizeOf (ρ.t 9)).run P w= .ok i0.size w:=fun w=>by simp[sizeOf,typeInfo,xm]
 have mixed:=L.mixed;have hz1: ¬((m:Int)=0):=by omega
 have mV:∀ty,(Builtin.append_ #[(ρ.t 24),(ρ.t 24)] ty #[.slice ad n c,.slice (some va) m vc]).run P w=_:=fun ty=>
  eL (ts:= #[(ρ.t 24),(ρ.t 24)]) (ty:=ty) rfl rfl L.t24 (.inl ⟨_,L.t24⟩) xm hz rfl ho hn T7 ZR hby
 clear hn ho
 obtain⟨W1,hW1⟩:∃W1,W1=w.drew.alloc (.cells (cs.toArray++vs.toArray++Builtin.zeroCells z.cells (grownCap w (n+m) c (ρ.t 9)-(n+m))) (ρ.t 9)):=⟨_,rfl⟩;rw[<-hW1]at mV|-;clear hW1
 generalize hk:i0.size=k at*
 obtain⟨vab,vao,vas⟩:=va
 go_enter L.f22,Body2.n22_ntmps ρ
 cases ad with
 |none=>
  go_wp2_with (at_builtin;refine Lib.wpList_append_run _ rfl _ _ (ρ.t 24) (ρ.t 24) rfl _ _ rfl rfl _ _ (mV _) ?_)
  all_goals (go_ret;exact⟨rfl,rfl⟩)
 |some a=>
  obtain⟨ab,ao,asp⟩:=a
  go_wp2_with (at_builtin;refine Lib.wpList_append_run _ rfl _ _ (ρ.t 24) (ρ.t 24) rfl _ _ rfl rfl _ _ (mV _) ?_)
  all_goals (go_ret;exact⟨rfl,rfl⟩)
set_option maxHeartbeats 4000000 in
set_option maxRecDepth 100000 in
theorem AIk(L:fG P ρ nm fv){i0:TypeInfo}{z:Value}(xm:P.info? (ρ.t 9)=some i0)(hz:i0.zero=some z)(hzl:z.cells.size=i0.size)(hs0:0<i0.size)(hby:i0.bytes<=512)(b off n c i:Nat)(va:Addr)(m vc:Nat)(cs vs:List Value)(w:World)(hi:i<n)(hm:0<m)(hnc:n<=c)(T7:c<n+m)(ZR:n+m<=Cm)
  (pV:cs.length=n*i0.size) (hvl:vs.length=m*i0.size) (hbw:b<w.heap.size) (yc:Be w b off cs) (hvw:va.block<w.heap.size)
  (WN:∀W:World,W.heap[va.block]? =w.heap[va.block]?->(Builtin.firstCells i0.size m (.slice (some va) m vc)).run P W= .ok vs.toArray W) (h1c:∀v∈cs,v.oneCell' =true) (h1v:∀v∈vs,v.oneCell' =true):
  Calls P (ρ.f 22) #[.slice (some ⟨b,off,none⟩) n c,.int .i64 i,.slice (some va) m vc] w fun e w' =>
   e= .returned (.slice (some ⟨w.heap.size,0,none⟩) (n+m) (grownCap w (n+m) c (ρ.t 9)))/\
   ∃W:World,W.heap=w.heap.push (.cells ((cs.take (i*i0.size)).toArray++Builtin.zeroCells z.cells (n+m-i)++Builtin.zeroCells z.cells (grownCap w (n+m) c (ρ.t 9)-(n+m))) (ρ.t 9))/\W.os=w.os/\W.tape=w.tape/\W.output=w.output/\
    w' =(W.setCells w.heap.size (i*i0.size) vs).setCells w.heap.size ((i+m)*i0.size) (cs.drop (i*i0.size)):=by
 have t0:=L.t0;have a0:=L.a0;have z0:=L.z0;have v0:=L.v0;have t3:=L.t3;have a3:=L.a3;have z3:=L.z3;have v3:=L.v3;have t4:=L.t4;have a4:=L.a4;have z4:=L.z4;have v4:=L.v4;have t24:=L.t24;have a24:=L.a24;have z24:=L.z24;have v24:=L.v24;have u0:=run_underlying L.t0;have u3:=run_underlying L.t3;have u4:=run_underlying L.t4;have o9:=run_underlying L.t24;have z9:∀w,(Go.sizeOf (ρ.t 9)).run P w= .ok i0.size w:=fun w=>by simp[sizeOf,typeInfo,xm]
 have mixed:=L.mixed;have AEh:=ZR;simp only[Cm]at AEh;have hz1: ¬((m:Int)=0):=by omega
 have hz2: ¬((i:Int)=(n:Int)):=by omega
 have hz3:(c:Int)<(n:Int)+(m:Int):=by omega
 have hkk:(n:Int)+(m:Int)-(i:Int)=((n+m-i:Nat):Int):=by omega
 have hik:i+(n+m-i)=n+m:=by omega
 have AFB:i*i0.size<=n*i0.size:=ALR _ (by omega);have hnm:(n+m)*i0.size=n*i0.size+m*i0.size:=APH ..;have him:(i+m)*i0.size=i*i0.size+m*i0.size:=APH ..;have hni:(n-i)*i0.size=n*i0.size-i*i0.size:=ASQ ..;have hold:(Builtin.firstCells i0.size i (.slice (some ⟨b,off,none⟩) i c)).run P w.drew= .ok (cs.take (i*i0.size)).toArray w.drew:=by
  simp only[Builtin.firstCells];have hl:(cs.take (i*i0.size)).length=i*i0.size:=by rw[ARV];omega
  have hca:Be w.drew b off (cs.take (i*i0.size)):=fun j v hj=>by
   rw[ARw]at hj;split at hj
   ·exact yc j v hj
   ·cases hj
  conv=>lhs;rw[<-hl]
  exact Lm hca
 have AQS:(n+m)*i0.bytes<=140737488355328:=by
  have:(n+m)*i0.bytes<=Cm*512:=ATg ZR hby;simp only[Cm]at this;omega
 have AJx:(n+m-i)*i0.bytes<=281474976710656:=by
  have:(n+m-i)*i0.bytes<=(n+m)*i0.bytes:=ALR _ (by omega);omega
 have hrz:∀ty,(Builtin.append_ #[(ρ.t 24),(ρ.t 3)] ty #[.slice (some ⟨b,off,none⟩) i c,.int .i64 ((n:Int)+(m:Int)-(i:Int))]).run P w=
   .ok (.slice (some ⟨w.heap.size,0,none⟩) (n+m) (grownCap w (n+m) c (ρ.t 9))) (w.drew.alloc (.cells ((cs.take (i*i0.size)).toArray++Builtin.zeroCells z.cells (n+m-i)++Builtin.zeroCells z.cells (grownCap w (n+m) c (ρ.t 9)-(n+m))) (ρ.t 9))):=fun ty=>by
  have h:=Lib.run_append_grow_zeros w (ρ.t 24) (ρ.t 3) ty (ρ.t 9) i0 z .i64 .i64 L.t24 L.t3 xm hz (some ⟨b,off,none⟩) i c (cs.take (i*i0.size)) hold (n+m-i) (by omega) hs0 (by omega) (by omega) AJx (by rw[hik];exact growslice_fits T7 AQS);rw[hik]at h;rw[hkk];exact h
 have hGn:n+m<=grownCap w (n+m) c (ρ.t 9):=grownCap_ge w _ _ _;have AVn:grownCap w (n+m) c (ρ.t 9)<=9223372036854775807:=by
  have:=grownCap_le_maxLen w (n+m) c (ρ.t 9) (by unfold maxLen;omega);unfold maxLen at this;omega
 obtain⟨G,hG⟩:∃G,G=grownCap w (n+m) c (ρ.t 9):=⟨_,rfl⟩;rw[<-hG]at hrz hGn AVn|-;obtain⟨ROW,AC_⟩:∃ROW:Array Value,ROW=(cs.take (i*i0.size)).toArray++Builtin.zeroCells z.cells (n+m-i)++Builtin.zeroCells z.cells (G-(n+m)):=⟨_,rfl⟩;rw[<-AC_]at hrz|-;have hRl:(n+m)*i0.size<=ROW.size:=by
  rw[AC_];simp only[ATQ,ATR,size_zeroCells,hzl,ARV];have e1:(n+m-i)*i0.size=(n+m)*i0.size-i*i0.size:=ASQ ..;omega
 obtain⟨W1,hW1⟩:∃W1,W1=w.drew.alloc (.cells ROW (ρ.t 9)):=⟨_,rfl⟩;rw[<-hW1]at hrz;have AIY:W1.heap[w.heap.size]? =some (.cells ROW (ρ.t 9)):=by
  rw[hW1]
  show(w.heap.push (.cells ROW (ρ.t 9)))[w.heap.size]? =_
  simp
 have AGW:∀x,x<w.heap.size->W1.heap[x]? =w.heap[x]?:=fun x hx=>by rw[hW1];exact Iu hx
 have hN:∀o l,o+l<=(n+m)*i0.size->W1.there w.heap.size o l:=fun o l h=>WI (k:=1) AIY (by omega) (Xu _)
 have hdl:(cs.drop (i*i0.size)).length=(n-i)*i0.size:=by rw[ASm,pV,hni]
 have AVc:∀(W:World),(∀x,W.cell? x=W1.cell? x)->(∀x,W.frozen? x=W1.frozen? x)->W.heap=W1.heap-> ∀ty dc,(Builtin.copy_ #[(ρ.t 24),(ρ.t 24)] ty #[.slice (some ⟨w.heap.size,i*i0.size,none⟩) (n+m-i) dc,.slice (some va) m vc]).run P W= .ok (goInt m) (W.setCells w.heap.size (i*i0.size) vs):=fun W hWc hWf vg ty dc=>
  dV (n:=m) L.t24 xm (by simp only[Nat.min_def];split<;>omega) (fun V hV=>by subst hV;exact WN _ (by rw[vg];exact AGW _ hvw)) (fun j hj=>by
   have:=hN (i*i0.size) (m*i0.size) (by omega) j (by omega);exact⟨by rw[hWc];exact this.1,by rw[hWf];exact this.2⟩) h1v
 have ASR:∀(W:World),(∀x,W.cell? x=(W1.setCells w.heap.size (i*i0.size) vs).cell? x)->(∀x,W.frozen? x=(W1.setCells w.heap.size (i*i0.size) vs).frozen? x)->W.heap=(W1.setCells w.heap.size (i*i0.size) vs).heap-> ∀ty dc sc,(Builtin.copy_ #[(ρ.t 24),(ρ.t 24)] ty #[.slice (some ⟨w.heap.size,(i+m)*i0.size,none⟩) (n+m-(i+m)) dc,.slice (some ⟨b,off+i*i0.size,none⟩) (n-i) sc]).run P W= .ok (goInt (n-i:Nat)) (W.setCells w.heap.size ((i+m)*i0.size) (cs.drop (i*i0.size))):=fun W hWc hWf vg ty dc sc=>
  dV (n:=n-i) L.t24 xm (by simp only[Nat.min_def];split<;>omega) (fun V hV=>by
   subst hV;simp only[Builtin.firstCells];rw[<-hdl];refine Lm fun j v hj=> ?_
   rw[AP4]at hj;have h3:=yc _ v hj;rw[<-APN]at h3;rw[<-h3];refine World.cell?_of_block (a:=⟨b,off+i*i0.size+j,none⟩) ?_
   rw[vg,DM _ _ _ _ _ (show b≠w.heap.size by omega)];exact AGW b hbw) (fun j hj=>by
   have hb:W1.there w.heap.size ((i+m)*i0.size) (cs.drop (i*i0.size)).length:=hN _ _ (by omega);refine⟨?_,?_⟩
   ·rw[hWc]
    exact isSome_setCells _ _ _ _ (fun t ht=>(hN (i*i0.size) vs.length (by omega) t ht).1) _ (hb j hj).1
   ·rw[hWf,World.frozen?_setCells]
    exact(hb j hj).2) (fun v hv=>h1c v (AR2 hv))
 generalize hk:i0.size=k at*
 have hE1:∀x,((w.alloc (.cells ROW (ρ.t 9))).drew).cell? x=W1.cell? x:=fun x=>by rw[hW1];rfl
 have hE2:∀x,((w.alloc (.cells ROW (ρ.t 9))).drew).frozen? x=W1.frozen? x:=fun x=>by rw[hW1];rfl
 have hE3:((w.alloc (.cells ROW (ρ.t 9))).drew).heap=W1.heap:=by rw[hW1];rfl
 have hF1:∀x,(((w.alloc (.cells ROW (ρ.t 9))).drew.setCells w.heap.size (i*k) vs).drew).cell? x=(W1.setCells w.heap.size (i*k) vs).cell? x:=fun x=>by rw[hW1];rfl
 have hF2:∀x,(((w.alloc (.cells ROW (ρ.t 9))).drew.setCells w.heap.size (i*k) vs).drew).frozen? x=(W1.setCells w.heap.size (i*k) vs).frozen? x:=fun x=>by rw[hW1];rfl
 have hF3:(((w.alloc (.cells ROW (ρ.t 9))).drew.setCells w.heap.size (i*k) vs).drew).heap=(W1.setCells w.heap.size (i*k) vs).heap:=by rw[hW1];rfl
 have hw1:IntKind.i64.wrap ((i:Int)+(m:Int))=(i:Int)+(m:Int):=by rw[IntKind.wrap_i64];omega
 have hb1:(0:Int)<=(i:Int)+(m:Int):=by omega
 have Pu:i<=n:=by omega
 have htn:((i:Int)+(m:Int)).toNat=i+m:=by omega
 have hb3:(i:Int)<=(n:Int):=by omega
 have hGi: ¬(G=i):=by omega
 have Aa8: ¬(G=i+m):=by omega
 have hci: ¬(c=i):=by omega
 subst hW1;clear hkk hik hold AC_ hG hRl AFB hnm him hni hdl hN yc WN AIY AGW AQS AJx;obtain⟨vab,vao,vas⟩:=va
 go_enter L.f22,Body2.n22_ntmps ρ
 go_wp2_with (first
  |(at_builtin;refine Lib.wpList_append_run _ rfl _ _ _ _ rfl _ _ rfl rfl _ _ (hrz _) ?_)
  |(at_builtin;refine wpList_copy_runI _ rfl _ _ (ρ.t 24) (ρ.t 24) rfl _ _ rfl rfl (AVc _ hE1 hE2 hE3 _ _) ?_)
  |(at_builtin;refine wpList_copy_runI _ rfl _ _ (ρ.t 24) (ρ.t 24) rfl _ _ rfl rfl (ASR _ (fun _=>rfl) (fun _=>rfl) rfl _ _ _) ?_))
 go_region_law_o (refine step_copy_runI rfl _ _ (ρ.t 24) (ρ.t 24) rfl (.slice (some ⟨w.heap.size,(i+m)*k,none⟩) (n+m-(i+m)) (G-(i+m))) (.slice (some ⟨b,off+i*k,none⟩) (n-i) (c-i)) (by simp[Act.eval,Act.put]) (by simp[Act.eval,Act.put]) (ASR _ hF1 hF2 hF3 (ρ.t 3) (G-(i+m)) (c-i)) ?_)
 go_wp2
 go_ret
 refine⟨rfl,((w.alloc (.cells ROW (ρ.t 9))).drew).drew,rfl,rfl,rfl,rfl,?_⟩;rw[drew_setCells]
end
end Go.Fw
end
section
namespace Go.Fw
open Go.Proofs Go.Shelf Go.RowKit Go.Lib
def Flat(w:World)(r:Ty)(css:List (List Value))(rows:List r.D):Prop:=
 css.length=rows.length/\(∀c∈css,c.length=r.n)/\ ∀(i:Nat) cs y,css[i]? =some cs->rows[i]? =some y->Rd w (fun _=>False) r cs y
theorem Flat.to{w w':World}{r:Ty}(hf:r.flat=true){css:List (List Value)}{rows:List r.D}(h:Flat w r css rows):Flat w' r css rows:=
 ⟨h.1,h.2.1,fun i cs y a b=>gi hf (h.2.2 i cs y a b)⟩
theorem Flat.take{w:World}{r:Ty}{css:List (List Value)}{rows:List r.D}(h:Flat w r css rows)(n:Nat):Flat w r (css.take n) (rows.take n):=by
 refine⟨by simp[h.1],fun c hc=>h.2.1 c (ATE hc),fun i cs y a b=> ?_⟩;rw[ARw]at a b;split at a
 ·rename_i hi
  rw[AI9 hi]at b;exact h.2.2 i cs y a b
 simp_all
theorem Flat.drop{w:World}{r:Ty}{css:List (List Value)}{rows:List r.D}(h:Flat w r css rows)(n:Nat):Flat w r (css.drop n) (rows.drop n):=by
 refine⟨by simp[h.1],fun c hc=>h.2.1 c (AR2 hc),fun i cs y a b=> ?_⟩;rw[AP4]at a b;exact h.2.2 _ cs y a b
theorem Flat.append{w:World}{r:Ty}{css vh:List (List Value)}{rows ARE:List r.D}(h:Flat w r css rows)(k:Flat w r vh ARE):Flat w r (css++vh) (rows++ARE):=by
 refine⟨by simp[h.1,k.1],fun c hc=>(ALk.1 hc).elim (h.2.1 c) (k.2.1 c),fun i cs y a b=> ?_⟩;by_cases hi:i<rows.length
 ·rw[AKW (by rw[h.1];omega)]at a
  rw[AKW hi]at b;exact h.2.2 i cs y a b
 ·rw[ALb (by rw[h.1];omega)]at a
  rw[ALb (by omega)]at b;rw[h.1]at a;exact k.2.2 _ cs y a b
theorem Flat.one{w:World}{r:Ty}(hf:r.flat=true){css:List (List Value)}{rows:List r.D}(h:Flat w r css rows):∀v∈css.flatten,v.oneCell' =true:=by
 intro v hv;obtain⟨c,hc,hv⟩:=ANa.1 hv;obtain⟨i,hi,rfl⟩:=AOq hc;have h1:=h.1;exact mn (lO (S:=fun _=>False) (d:=0) hf (h.2.2 i _ _ (AJA hi) (AJA (by omega)))) v hv
theorem Flat.at{w:World}{S:Nat->Prop}{d:Nat}{r:Ty}(hf:r.flat=true){css:List (List Value)}{rows:List r.D}(h:Flat w r css rows):FD w S d r css rows (List.replicate rows.length []):=FD.flat hf h.1 h.2.1 h.2.2
theorem AH4{w:World}{S:Nat->Prop}{r:Ty}(hf:r.flat=true){css:List (List Value)}{rows:List r.D}{Fs:List AAc}{d:Nat}(h:FD w S d r css rows Fs):Flat w r css rows:=by
 refine⟨h.1,h.2.2.1,fun i cs y a b=> ?_⟩;have hi:=(AJM.1 b).1;have h2:=h.2.1;exact gi hf (ZJ (h.2.2.2 i cs y (Fs[i]'(by omega)) a b (AJA _)))
theorem Flat.vt{w:World}{r:Ty}{css:List (List Value)}{rows:List r.D}(h:Flat w r css rows)(n:Nat)(hn:n<=rows.length):css.flatten.take (n*r.n)=(css.take n).flatten:=by
 have h1:((css.take n).flatten).length=n*r.n:=by
  rw[Hr (n:=r.n) (fun c hc=>h.2.1 c (ATE hc)),ARV,h.1,Nat.min_eq_left hn]
 grind[List.take_append_drop,List.flatten_append,List.take_of_length_le]
theorem Flat.uw{w:World}{r:Ty}{css:List (List Value)}{rows:List r.D}(h:Flat w r css rows)(n:Nat)(hn:n<=rows.length):css.flatten.drop (n*r.n)=(css.drop n).flatten:=by
 have h1:((css.take n).flatten).length=n*r.n:=by
  rw[Hr (n:=r.n) (fun c hc=>h.2.1 c (ATE hc)),ARV,h.1,Nat.min_eq_left hn]
 grind[List.take_append_drop,List.flatten_append,List.drop_eq_nil_of_le]
theorem kJ{w:World}{S:Nat->Prop}{d b o cap:Nat}{r:Ty}{rows:List r.D}{css:List (List Value)}{Fs:List AAc}{arr:Array Value}{ty:TypeId}{fr:ACk}(h:FD w S d r css rows Fs)(hb:w.heap[b]? =some (.cells arr ty fr))
  (hc:Be w b o css.flatten) (AAs:rows.length<=cap) (K8:o+cap*r.n<=arr.size) (hu:yx fr (arr.size+mk r)):Ow w S (d+1) (.sl r) [.slice (some ⟨b,o,none⟩) rows.length cap] rows (b::Fs.flatten):=by
 simp only[Ow];refine⟨_,cap,rfl,AAs,.inr ⟨b,o,arr,ty,fr,Fs,rfl,hb,K8,hu,rfl,h.2.1,fun j q G hq hG=> ?_⟩⟩;have hj:=(AJM.1 hq).1;have h1:=h.1;have yV:j<css.length:=by omega
 refine⟨css[j],h.2.2.1 _ (AJ7 _),fun x u hx=> ?_,h.2.2.2 j _ _ _ (AJA yV) hq hG⟩;have hxl:=(AJM.1 hx).1;rw[h.2.2.1 _ (AJ7 _)]at hxl;have:=Zy (n:=r.n) (css:=css) (ex:=[]) (i:=j) h.2.2.1 (AJA yV) hxl;rw[AKX,hx]at this;have:=hc _ _ this;grind
theorem oM{w:World}{b o:Nat}{A V B:List Value}{arr:Array Value}{ty:TypeId}{fr:ACk}(hb:w.heap[b]? =some (.cells arr ty fr))(hs:o+(A.length+V.length)+B.length<=arr.size)(hA:Be w b o A):
  ∃KT,((w.setCells b (o+(A.length+V.length)) B).setCells b (o+A.length) V).heap[b]? =some (.cells KT ty fr)/\KT.size=arr.size/\Be ((w.setCells b (o+(A.length+V.length)) B).setCells b (o+A.length) V) b o (A++V++B):=by
 have h1:=FW B (o+(A.length+V.length)) w b arr ty fr hb;have z1:(E_ arr (o+(A.length+V.length)) B).size=arr.size:=FV ..;have h2:=FW V (o+A.length) _ b _ ty fr h1;grind[OQ,FV,Be.append,VC,List.length_append]
theorem kM{w:World}{b o:Nat}{A V B:List Value}{arr:Array Value}{ty:TypeId}{fr:ACk}(hb:w.heap[b]? =some (.cells arr ty fr))(hs:o+(A.length+V.length)+B.length<=arr.size)(hA:Be w b o A):
  ∃KT,((w.setCells b (o+A.length) V).setCells b (o+(A.length+V.length)) B).heap[b]? =some (.cells KT ty fr)/\KT.size=arr.size/\Be ((w.setCells b (o+A.length) V).setCells b (o+(A.length+V.length)) B) b o (A++V++B):=by
 have h1:=FW V (o+A.length) w b arr ty fr hb;have z1:(E_ arr (o+A.length) V).size=arr.size:=FV ..;have h2:=FW B (o+(A.length+V.length)) _ b _ ty fr h1;grind[OQ,FV,Be.append,VC,List.length_append]
@[reducible] def uv (r:Ty):Bc:=⟨[(0,.c (.ref 0)),(1,.c (.v (.int .i64))),(2,.c (.sl false r))],[.sl 1 r]⟩
@[reducible] def AA8 (r:Ty):Bc:=⟨[(0,.c (.ref 1))],[.gone,.sl 1 r]⟩
theorem AB_{P:Program}{f:Nat}{args:Array Value}{E:Env}{w:World}{r:Ty}{d:Nat}(hd:1<=d){F:AAc}(hS:Sep E w F){l:List r.D}{Q:Ending->World->Prop}
  (h:Calls P f args w Q) (hq:∀e w',Q e w'-> ∃v F',e= .returned v/\isSlice v=true/\Ow w' E.S d (.sl r) [v] l F'/\F'.Nodup/\(∀c∈F',¬E.T c/\c<w'.heap.size)/\(∀c,E.T c->w'.heap[c]? =w.heap[c]?)/\Grown w w'):
  Calls P f args w fun e w' => ∃x E',e= .returned x/\fb E w E' w'/\C0 E' w' [.dead,.sl d r l] [.dead,.sl d r l] []/\
   Mm E' w' [.dead,.sl d r l] id [(0,.c (.ref 1))] ((),()) [x]/\ ∀i,i<1->alive [.gone,.sl d r] i=true->E'.Hg i=E.Hg i/\E'.Hi i=E.Hi i:=by
 refine h.mono fun e w' hh=> ?_
 obtain⟨v,F',rfl,hv,ho,nd,hfr,hT,hg⟩:=hq e w' hh
 let E':Env:={ E with Hi:=fun n=>if n=1 then v else E.Hi n }
 refine⟨v,E',rfl,⟨fun _ h=>h,fun _ h=>h,fun _ h=> .inl h,fun _ h=> .inl h,hT,hg.os,hg.tape,hg.output,hg.size⟩,⟨[[],F'],⟨rfl,fun k B F hB hF=> ?_⟩,?_⟩,?_,fun i hi ha=> ?_⟩
 ·match k with
  |0=>
   simp at hB hF;subst hB hF;rfl
  |1=>
   simp at hB hF;subst hB hF;exact⟨hd,ho⟩
  |k+2=>simp at hB
 ·refine⟨by simpa using nd,fun c hc=>(hfr c (by simpa using hc)).1,fun c hc=>(hfr c (by simpa using hc)).2,hS.st,fun c hc=>AOX (hS.cI c hc) hg.size,hS.tu.mono (fun _ h=>h) hT⟩
 ·refine⟨⟨v,rfl,?_⟩,trivial⟩
  refine⟨hv,?_⟩
  show DC r l []/\(∃q,Gu r l []=some q)/\I1 w' (E'.Hi 1) []=some v
  refine⟨trivial,⟨_,rfl⟩,?_⟩;rw[Cv];simp[E']
 ·have:i=0:=by omega
  subst this;simp[alive]at ha
end Go.Fw
end
section
namespace Go.Fw
open Go.M Go.Proofs Go.Shelf Go.RowKit Go.Lib
theorem y_{w:World}{b:Nat}{arr:Array Value}{ty:TypeId}{fr:ACk}(h:w.heap[b]? =some (.cells arr ty fr)):w.shape? b=some (ty,arr.size):=by
 simp[World.shape?,h]
theorem AEg{w:World}{b o:Nat}{v:Value}(h:w.cell? ⟨b,o,none⟩=some v):∃arr ty fr,w.heap[b]? =some (.cells arr ty fr)/\o<arr.size:=by
 unfold World.cell? at h;grind
theorem Grown.trans'{w w' w'':World}(h:Grown w w')(k:Grown w' w''):Grown w w'':=⟨k.os.trans h.os,k.tape.trans h.tape,k.output.trans h.output,AOT h.size k.size⟩
theorem xD{P:Program}{T:JR}{ρ:Ren}{nm:String}{fv:Func}(hT:ES P T)(L:fG P ρ nm fv){r:Ty}(U0:T.NP (ρ.t 24) r=true)(hf:r.flat=true)(an:mk r=1)(hn0:0<r.n):
  L4 P (ρ.f 22) ⟨uv r,AA8 r,fun v=>(z6 v.1.2.1 v.1.2.2.1 v.2.1).map fun l=>(((),()),((),l,()))⟩:=by
 refine⟨by simp[Qv.ok,kinds,mo,AP.LK,XP.LK,BP.LK],YA L.f22 L.n22 (by kernel_rfl),?_⟩;intro E w v args u ARb hB hS hg;obtain⟨⟨u0,p,vs,u1⟩,rows,u2⟩:=v;obtain⟨⟨⟨⟩,⟨⟩⟩,⟨⟩,l,⟨⟩⟩:=u;simp only[AJN]at hg;obtain⟨l',oS,hg⟩:=hg;simp only[ANx,true_and,AO1]at hg;subst hg;unfold z6 at oS;split at oS
 case isFalse=>cases oS
 rename_i hc;obtain⟨hp0,hp1,ZR⟩:=hc;obtain⟨p,rfl⟩:=AST hp0;simp only[AJT,AJL]at oS;have hpn:p<=rows.length:=by omega
 obtain⟨⟨a0,h0,x0⟩,⟨a1,h1,x1⟩,⟨a2,h2,x2⟩,_⟩:=hS;have IV:args= #[a0,a1,a2]:=by
  have hl3:args.toList.length=3:=ARb;apply Array.ext'
  match hq:args.toList,hl3 with
  |[b0,b1,b2],_=>
   rw[hq]at h0 h1 h2;simp at h0 h1 h2;simp[h0,h1,h2]
 subst IV;have e0:E.Hi 0=a0:=by
  have:VR E w [Bx.sl 1 r rows] (.ref 0 []) a0:=x0;simp only[VR]at this;obtain⟨_,_,_,h⟩:=this;rw[Cv]at h;exact AS9 h
 have e1:a1= .int .i64 (p:Int):=by
  have:VR E w [Bx.sl 1 r rows] (.v (.int .i64) (p:Int)) a1:=x1;simp only[VR,Rd,AL9,AO1]at this;exact this.2
 have e2:Rd w E.T (.sl r) [a2] vs:=by
  have:VR E w [Bx.sl 1 r rows] (.sl false r vs) a2:=x2;simp only[VR]at this;simpa using this
 subst e1;obtain⟨Fs,⟨hFl,hFb⟩,hSep⟩:=hB;obtain⟨F,rfl⟩:∃F,Fs=[F]:=by
  match Fs,hFl with
  |[F],_=>exact⟨F,rfl⟩
 have AFZ:=hFb 0 (.sl 1 r rows) F rfl rfl;obtain⟨_,ho⟩:=AFZ;rw[e0]at ho;simp only[APT,ASi,AKX]at hSep;have ho0:=ho;obtain⟨ad,cap,css,Fs1,R1,rfl,hle,hd,hp1',hcase⟩:=qP ho;have zx:=AH4 hf hd;obtain⟨e,ti,hut,V9,hs1,hby,hrow⟩:=KR hT U0;obtain⟨i0,z,i1,i2,i3,i4,i5,oT⟩:=Xx hT V9 hrow;have he:e=ρ.t 9:=by
  have:=L.t24.symm.trans hut;simp at this;exact this.symm
 subst he;rw[hs1]at i2;have z9:∀w,(Go.sizeOf (ρ.t 9)).run P w= .ok r.n w:=fun w=>by simp[sizeOf,typeInfo,i1,i2]
 have hzl:z.cells.size=r.n:=by rw[<-AQu,i5,Gr]
 have e2':=e2;simp only[Rd]at e2;obtain⟨va,vc,bu,hvle,hvr⟩:=e2;simp only[AL9,AO1]at bu;subst bu;have fin:∀{Q:Ending->World->Prop},Calls P (ρ.f 22) #[.slice ad rows.length cap,.int .i64 (p:Int),.slice va vs.length vc] w Q->
   (∀e w',Q e w'-> ∃v F',e= .returned v/\isSlice v=true/\Ow w' E.S 1 (.sl r) [v] l' F'/\F'.Nodup/\(∀c∈F',¬E.T c/\c<w'.heap.size)/\(∀c,E.T c->w'.heap[c]? =w.heap[c]?)/\Grown w w')->_:=fun h hq=>AB_ (ALj 1) hSep h hq
 have oV:∀n:Nat,(List.replicate n ([]:AAc)).flatten=[]:=fun n=>by simp
 by_cases hm0:vs.length=0
 ·
  have AVP:vs=[]:=AMk hm0;subst AVP;have hl:rows=l':=by rw[<-oS,AKX,List.take_append_drop]
  subst hl;refine fin (AGP (k:=r.n) L z9 ad rows.length cap p va vc w hpn hle) fun e w' h=> ?_
  obtain⟨rfl,rfl⟩:=h;exact⟨_,F,rfl,rfl,ho0,hSep.nodup,fun c hc=>⟨hSep.free c hc,hSep.lt c hc⟩,fun _ _=>rfl,⟨rfl,rfl,rfl,ALj _⟩⟩
 have hm:0<vs.length:=by omega
 rcases hvr with hvr|⟨vb,vo,rfl,hvT,hvr⟩
 ·exact absurd hvr hm0
 obtain⟨vh,c1,c2,c3,c4⟩:=sk hvr;have aG:Flat w r vh vs:=⟨c1,c2,fun i cs y a b=>gi hf (c4 i cs y a b)⟩;have AB1:vh.flatten.length=vs.length*r.n:=by rw[Hr c2,c1]
 have ABt:css.flatten.length=rows.length*r.n:=by rw[Hr hd.2.2.1,hd.1]
 have AQC:0<vh.flatten.length:=by rw[AB1];exact Nat.mul_pos hm hn0
 obtain⟨arrv,tyv,frv,hbv,hov⟩:=AEg (c3 0 _ (AJA AQC));have AWc:vb<w.heap.size:=by
  by_cases hh:vb<w.heap.size
  ·exact hh
  ·rw[Array.getElem?_eq_none (by omega)]at hbv;cases hbv
 have oq:nc P w r.n vs.length (.slice (some ⟨vb,vo,none⟩) vs.length vc) vh.flatten:=RJ c1 c2 (.inr ⟨vb,vo,rfl,c3⟩);have AQM:∀W:World,W.heap[vb]? =w.heap[vb]?->(Builtin.firstCells r.n vs.length (.slice (some ⟨vb,vo,none⟩) vs.length vc)).run P W= .ok vh.flatten.toArray W:=fun W hW=>by
  simp only[Builtin.firstCells];rw[<-AB1];exact Lm (c3.of_block hW)
 have AJh:=zx.one hf;have AG_:=aG.one hf;by_cases T7:rows.length+vs.length<=cap
 ·rcases hcase with⟨h0,_⟩|⟨b,o,arr,ty,fr,rfl,hb,K8,hu,rfl,fZ⟩
  ·omega
  have hbT: ¬E.T b:=hSep.free b (by simp);have AFn:b<w.heap.size:=hSep.lt b (by simp);have WJ:vb≠b:=fun e=>hbT (e▸hvT)
  have AYZ:(rows.length+vs.length)*r.n<=cap*r.n:=ALR _ T7;have hnm:(rows.length+vs.length)*r.n=rows.length*r.n+vs.length*r.n:=APH ..;by_cases hpe:p=rows.length
  ·subst hpe
   have hl:rows++vs=l':=by rw[<-oS,List.take_length,APP,AKX]
   subst hl;have ky:=AEz (ρ:=ρ) L (i0:=i0) i1 b o rows.length cap ⟨vb,vo,none⟩ vs.length vc vh.flatten w hm T7 (by rw[i2];exact WI (k:=mk r) hb (by omega) hu) (by rw[i2];exact oq) AG_;refine fin ky fun e w' h=> ?_
   obtain⟨rfl,rfl⟩:=h;obtain⟨KT,q1,q2,q3⟩:=oM (B:=[]) (V:=vh.flatten) hb (by simp only[AKx];omega) fZ;rw[ABt,<-i2]at q1 q3;simp only[World.setCells,AKX]at q1 q3;have hfl:=(zx.append aG).to (w':=w.setCells b (o+rows.length*i0.size) vh.flatten) hf;refine⟨_,b::(List.replicate (rows++vs).length ([]:AAc)).flatten,rfl,rfl,?_,?_,?_,fun c hc=>DM _ _ _ _ _ (fun e=>hbT (e▸hc)),B8 _ _ _ _⟩
   ·have:=kJ (cap:=cap) (hfl.at (S:=E.S) (d:=0) hf) q1 (by rw[APJ];exact q3) (by rw[AKN];exact T7) (by rw[q2];exact K8) (by rw[q2];exact hu)
    rw[oV]at this|-;rw[AKN]at this;exact this
   ·simp
   ·intro c hc
    rw[oV]at hc;simp at hc;subst hc;exact⟨hbT,by rw[DW];exact AFn⟩
  ·have IQ:p<rows.length:=by omega
   have hpm:p*r.n<=rows.length*r.n:=ALR _ hpn;have AN4:(p+vs.length)*r.n=p*r.n+vs.length*r.n:=APH ..;have ky:=ADs (ρ:=ρ) L (i0:=i0) i1 (by rw[i2];exact hn0) b o rows.length cap p ⟨vb,vo,none⟩ vs.length vc css.flatten vh.flatten w IQ hm T7 ZR WJ (by rw[i2];exact ABt) (by rw[i2];exact AB1) fZ
    (by rw[i2];exact WI (k:=mk r) hb (by omega) hu) (by rw[i2];exact AQM) AJh AG_ tyv ty arrv.size arr.size (y_ hbv) (y_ hb) (by omega) (by
     have:=hu arr.size (by omega);obtain⟨lo,hi⟩:=fr;simp only[World.frozen?,hb];simp at this|-;omega)
   refine fin ky fun e w' h=> ?_
   obtain⟨rfl,W,vg,hWg,rfl⟩:=h;have hA:(css.flatten.take (p*r.n)).length=p*r.n:=by rw[ARV];omega
   have hB:(css.flatten.drop (p*r.n)).length=rows.length*r.n-p*r.n:=by rw[ASm,ABt]
   have hbW:W.heap[b]? =some (.cells arr ty fr):=by rw[vg];exact hb
   have hcA:Be W b o (css.flatten.take (p*r.n)):=Be.heap (fun j v hj=>by
    rw[ARw]at hj;split at hj
    ·exact fZ j v hj
    ·cases hj) vg
   obtain⟨KT,q1,q2,q3⟩:=oM (B:=css.flatten.drop (p*r.n)) (V:=vh.flatten) hbW (by omega) hcA;rw[hA,AB1,<-AN4,<-i2]at q1 q3
   generalize oR:(W.setCells b (o+(p+vs.length)*i0.size) (css.flatten.drop (p*i0.size))).setCells b (o+p*i0.size) vh.flatten=w' at q1 q3
   have hfl:=(((zx.take p).append aG).append (zx.drop p)).to (w':=w') hf;rw[oS]at hfl;have vd:l'.length=rows.length+vs.length:=by rw[<-oS];simp;omega
   refine⟨_,b::(List.replicate l'.length ([]:AAc)).flatten,rfl,rfl,?_,?_,?_,fun c hc=> ?_,?_⟩
   ·have:=kJ (cap:=cap) (hfl.at (S:=E.S) (d:=0) hf) q1 (by
     rw[APJ,APJ,<-zx.vt p hpn,<-zx.uw p hpn,<-i2];exact q3) (by rw[vd];exact T7) (by rw[q2];exact K8) (by rw[q2];exact hu)
    rw[oV]at this|-;rw[vd]at this;exact this
   ·simp
   ·intro c hc
    rw[oV]at hc;simp at hc;subst hc;refine⟨hbT,?_⟩;rw[<-oR,DW,DW,vg];exact AFn
   ·have hcb:c≠b:=fun e=>hbT (e▸hc)
    rw[<-oR,DM _ _ _ _ _ hcb,DM _ _ _ _ _ hcb,vg]
   ·rw[<-oR]
    exact Grown.trans' hWg (Grown.trans' (B8 _ _ _ _) (B8 _ _ _ _))
 ·have hgc:=grownCap_ge w (rows.length+vs.length) cap (ρ.t 9)
  by_cases hpe:p=rows.length
  ·subst hpe
   have hl:rows++vs=l':=by rw[<-oS,List.take_length,APP,AKX]
   subst hl;have hold:rows.length=0\/ ∃b o,ad=some ⟨b,o,none⟩/\Be w b o css.flatten:=by
    rcases hcase with⟨h0,_⟩|⟨b,of,arr,ty0,fr,rfl,hb,K8,hunf,rfl,hc⟩
    ·exact .inl (by omega)
    ·exact .inr ⟨b,of,rfl,hc⟩
   have ky:=AFN (ρ:=ρ) L (i0:=i0) (z:=z) i1 i4 (by omega) ad rows.length cap ⟨vb,vo,none⟩ vs.length vc css.flatten vh.flatten w hm hle (by omega) ZR (by rw[i2];exact iF hd.1 hd.2.2.1 hold) (by rw[i2];exact oq);refine fin ky fun e w' h=> ?_
   obtain⟨rfl,rfl⟩:=h
   generalize grownCap w (rows.length+vs.length) cap (ρ.t 9)=gc at hgc|-
   generalize ef:css.flatten.toArray++vh.flatten.toArray++Builtin.zeroCells z.cells (gc-(rows.length+vs.length))=arr
   have hal:arr.toList=(css++vh).flatten++(Builtin.zeroCells z.cells (gc-(rows.length+vs.length))).toList:=by rw[<-ef];simp
   have AVu:arr.size=gc*r.n:=by
    rw[<-ef];simp only[ATQ,ATR,aZ,hzl,AB1,ABt,<-APH];congr 1;omega
   have new:(w.drew.alloc (.cells arr (ρ.t 9))).heap[w.heap.size]? =some (.cells arr (ρ.t 9)):=by
    show(w.heap.push (.cells arr (ρ.t 9)))[w.heap.size]? =_
    simp
   have hfl:=(zx.append aG).to (w':=w.drew.alloc (.cells arr (ρ.t 9))) hf;have hra:=hfl.at (S:=E.S) (d:=0) hf;refine⟨_,w.heap.size::(List.replicate (rows++vs).length ([]:AAc)).flatten,rfl,rfl,?_,?_,?_,fun c hc=>Iu (hSep.cI c hc),⟨rfl,rfl,rfl,by show _<=(w.heap.push _).size;simp⟩⟩
   ·have:=fW (cap:=gc) new hal hra.1 (by rw[AKN];exact hgc) (by omega) (Xu _) hra.2.1 hra.2.2.2
    rw[oV]at this|-;rw[AKN]at this;exact this
   ·simp
   ·intro c hc
    rw[oV]at hc;simp at hc;subst hc;exact⟨fun z8=>Nat.lt_irrefl _ (hSep.cI _ z8),by show _<(w.heap.push _).size;simp⟩
  ·have IQ:p<rows.length:=by omega
   have hpm:p*r.n<=rows.length*r.n:=ALR _ hpn;have AN4:(p+vs.length)*r.n=p*r.n+vs.length*r.n:=APH ..;have hnm:(rows.length+vs.length)*r.n=rows.length*r.n+vs.length*r.n:=APH ..;rcases hcase with⟨h0,_⟩|⟨b,o,arr,ty,fr,rfl,hb,K8,hu,rfl,fZ⟩
   ·omega
   have AFn:b<w.heap.size:=hSep.lt b (by simp);have ky:=AIk (ρ:=ρ) L (i0:=i0) (z:=z) i1 i4 (by rw[i2];exact hzl) (by rw[i2];exact hn0) (by omega) b o rows.length cap p ⟨vb,vo,none⟩ vs.length vc css.flatten vh.flatten w IQ hm hle (by omega) ZR (by rw[i2];exact ABt) (by rw[i2];exact AB1) AFn fZ AWc (by rw[i2];exact AQM) AJh AG_;refine fin ky fun e w' h=> ?_
   obtain⟨rfl,W,vg,hWo,hWt,hWu,rfl⟩:=h
   generalize grownCap w (rows.length+vs.length) cap (ρ.t 9)=gc at hgc vg|-
   have hA:(css.flatten.take (p*r.n)).length=p*r.n:=by rw[ARV];omega
   have hB:(css.flatten.drop (p*r.n)).length=rows.length*r.n-p*r.n:=by rw[ASm,ABt]
   rw[i2]at vg
   generalize AC_:(css.flatten.take (p*r.n)).toArray++Builtin.zeroCells z.cells (rows.length+vs.length-p)++Builtin.zeroCells z.cells (gc-(rows.length+vs.length))=ROW at vg
   have hRs:ROW.size=gc*r.n:=by
    rw[<-AC_];simp only[ATQ,ATR,aZ,hzl,hA,<-APH];congr 1;omega
   have hgm:(rows.length+vs.length)*r.n<=gc*r.n:=ALR _ hgc;have hbW:W.heap[w.heap.size]? =some (.cells ROW (ρ.t 9)):=by rw[vg];simp
   have hcA:Be W w.heap.size 0 (css.flatten.take (p*r.n)):=fun j v hj=>by
    have yV:=(AJM.1 hj).1;rw[Kw hbW,APB,<-Array.getElem?_toList,<-AC_];simp only[Array.toList_append,AKK];rw[AKW yV];exact hj
   obtain⟨KT,q1,q2,q3⟩:=kM (B:=css.flatten.drop (p*r.n)) (V:=vh.flatten) hbW (by omega) hcA;rw[hA,AB1,<-AN4,<-i2,APB,APB]at q1 q3
   generalize oR:(W.setCells w.heap.size (p*i0.size) vh.flatten).setCells w.heap.size ((p+vs.length)*i0.size) (css.flatten.drop (p*i0.size))=w' at q1 q3
   have hfl:=(((zx.take p).append aG).append (zx.drop p)).to (w':=w') hf;rw[oS]at hfl;have vd:l'.length=rows.length+vs.length:=by rw[<-oS];simp;omega
   refine⟨_,w.heap.size::(List.replicate l'.length ([]:AAc)).flatten,rfl,rfl,?_,?_,?_,fun c hc=> ?_,?_⟩
   ·have:=kJ (cap:=gc) (hfl.at (S:=E.S) (d:=0) hf) q1 (by
     rw[APJ,APJ,<-zx.vt p hpn,<-zx.uw p hpn,<-i2];exact q3) (by rw[vd];exact hgc) (by rw[q2];omega) (Xu _)
    rw[oV]at this|-;rw[vd]at this;exact this
   ·simp
   ·intro c hc
    rw[oV]at hc;simp at hc;subst hc;refine⟨fun z8=>Nat.lt_irrefl _ (hSep.cI _ z8),?_⟩;rw[<-oR,DW,DW,vg];simp
   ·have pV:=hSep.cI c hc
    rw[<-oR,DM _ _ _ _ _ (by omega),DM _ _ _ _ _ (by omega),vg];exact Iu pV
   ·rw[<-oR]
    refine Grown.trans' (w':=W) ⟨hWo,hWt,hWu,by rw[vg];simp⟩ (Grown.trans' (B8 _ _ _ _) (B8 _ _ _ _))
end Go.Fw
end
section
namespace Go.Fw
open Go.M Go.Proofs Go.Shelf Go.RowKit Go.Lib
structure sa (P:Program) (ρ:Ren) (nm:String):Prop where
 mixed:P.follows .mixedOrders=true
 f24:P.funcs[ρ.f 24]? =some { Body2.n24 ρ with name:=nm }
 n24:(nm== "runtime.NumGoroutine")=false
 t0:P.underlying (ρ.t 0)=some (TypeDesc.tuple #[])
 a0:∀w,(isAgg (ρ.t 0)).run P w= .ok false w
 z0:∀w,(Go.sizeOf (ρ.t 0)).run P w= .ok 1 w
 v0:∀w,(zeroValue (ρ.t 0)).run P w= .ok (Value.tuple #[]) w
 t3:P.underlying (ρ.t 3)=some (TypeDesc.int IntKind.i64)
 a3:∀w,(isAgg (ρ.t 3)).run P w= .ok false w
 z3:∀w,(Go.sizeOf (ρ.t 3)).run P w= .ok 1 w
 v3:∀w,(zeroValue (ρ.t 3)).run P w= .ok (Value.int IntKind.i64 0) w
 t4:P.underlying (ρ.t 4)=some (TypeDesc.bool)
 a4:∀w,(isAgg (ρ.t 4)).run P w= .ok false w
 z4:∀w,(Go.sizeOf (ρ.t 4)).run P w= .ok 1 w
 v4:∀w,(zeroValue (ρ.t 4)).run P w= .ok (Value.bool false) w
 t24:P.underlying (ρ.t 24)=some (TypeDesc.slice (ρ.t 9))
 a24:∀w,(isAgg (ρ.t 24)).run P w= .ok false w
 z24:∀w,(Go.sizeOf (ρ.t 24)).run P w= .ok 1 w
 v24:∀w,(zeroValue (ρ.t 24)).run P w= .ok (Value.slice none 0 0) w
section
variable{P:Program} {ρ:Ren} {nm:String}
set_option maxHeartbeats 4000000 in
set_option maxRecDepth 1000000 in
theorem AFR(L:sa P ρ nm){k:Nat}(z9:∀w,(Go.sizeOf (ρ.t 9)).run P w= .ok k w)(ad:Option Addr)(n c i:Nat)(w:World)(hi:i<=n)(hnc:n<=c):
  Calls P (ρ.f 24) #[.slice ad n c,.int .i64 i,.int .i64 i] w fun e w' =>e= .returned (.slice ad n c)/\w' =w:=by
 have mixed:=L.mixed;have t0:=L.t0;have a0:=L.a0;have z0:=L.z0;have v0:=L.v0;have t3:=L.t3;have a3:=L.a3;have z3:=L.z3;have v3:=L.v3;have t4:=L.t4;have a4:=L.a4;have z4:=L.z4;have v4:=L.v4;have t24:=L.t24;have a24:=L.a24;have z24:=L.z24;have v24:=L.v24;have u0:=run_underlying L.t0;have u3:=run_underlying L.t3;have u4:=run_underlying L.t4;have o9:=run_underlying L.t24
 go_enter L.f24,Body2.n24_ntmps ρ
 cases ad with
 |none=>
  go_wp2
  all_goals (go_ret;exact⟨rfl,rfl⟩)
 |some a=>
  obtain⟨ab,ao,asp⟩:=a
  go_wp2
  all_goals (go_ret;exact⟨rfl,rfl⟩)
theorem AAF{w:World}{t elem ty:TypeId}{i0:TypeInfo}{z:Value}{b o n cap:Nat}{Z:List Value}(hu:P.underlying t=some (.slice elem))(hi:P.info? elem=some i0)(hz:i0.zero=some z)(hn:0<n)(hZ:(Builtin.zeroCells z.cells n).toList=Z)
  (sj:w.there b o Z.length) (h1:∀v∈Z,v.oneCell' =true):(Builtin.clear_ #[t] ty #[.slice (some ⟨b,o,none⟩) n cap]).run P w= .ok (.tuple #[]) (w.setCells b o Z):=by
 have tY:=run_storeCells_cells (P:=P) b o Z 0 w (by simpa using fun j hj=>(sj j hj).1) (by simpa using fun j hj=>(sj j hj).2) h1;rw[APL]at tY;obtain⟨n,rfl⟩:∃m,n=m+1:=⟨n-1,by omega⟩;simp[Builtin.clear_,run_underlying hu,zeroValue,typeInfo,hi,hz,hZ,tY]
set_option maxHeartbeats 4000000 in
set_option maxRecDepth 1000000 in
theorem AGC(L:sa P ρ nm){i0:TypeInfo}{z:Value}(xm:P.info? (ρ.t 9)=some i0)(hz:i0.zero=some z)(b off n c i j:Nat)(cs Z:List Value)(w:World)(hij:i<j)(hj:j<=n)(hnc:n<=c)
  (pV:cs.length=n*i0.size) (yc:Be w b off cs) (sj:w.there b off (n*i0.size)) (h1c:∀v∈cs,v.oneCell' =true) (hZ:(Builtin.zeroCells z.cells (j-i)).toList=Z) (hZl:Z.length=(j-i)*i0.size) (h1z:∀v∈Z,v.oneCell' =true):
  Calls P (ρ.f 24) #[.slice (some ⟨b,off,none⟩) n c,.int .i64 i,.int .i64 j] w fun e w' =>
   e= .returned (.slice (some ⟨b,off,none⟩) (i+(n-j)) c)/\ ∃W:World,W.heap=w.heap/\Grown w W/\w' =(W.setCells b (off+i*i0.size) (cs.drop (j*i0.size))).setCells b (off+(i+(n-j))*i0.size) Z:=by
 have mixed:=L.mixed;have t0:=L.t0;have a0:=L.a0;have z0:=L.z0;have v0:=L.v0;have t3:=L.t3;have a3:=L.a3;have z3:=L.z3;have v3:=L.v3;have t4:=L.t4;have a4:=L.a4;have z4:=L.z4;have v4:=L.v4;have t24:=L.t24;have a24:=L.a24;have z24:=L.z24;have v24:=L.v24;have u0:=run_underlying L.t0;have u3:=run_underlying L.t3;have u4:=run_underlying L.t4;have o9:=run_underlying L.t24;have z9:∀w,(Go.sizeOf (ρ.t 9)).run P w= .ok i0.size w:=fun w=>by simp[sizeOf,typeInfo,xm]
 obtain⟨k,hk⟩:∃k,i0.size=k:=⟨_,rfl⟩;rw[hk]at pV sj hZl z9|-;have e1:(n-j)*k=n*k-j*k:=ASQ ..;have e2:(j-i)*k=j*k-i*k:=ASQ ..;have e3:j*k<=n*k:=ALR _ hj;have e4:i*k<=j*k:=ALR _ (by omega);have e5:(i+(n-j))*k=i*k+(n-j)*k:=APH ..;obtain⟨news,oq⟩:∃news,news=cs.drop (j*k):=⟨_,rfl⟩;have hlen:news.length=(n-j)*k:=by rw[oq,ASm,pV];omega
 rw[<-oq];obtain⟨A,hA,AOM⟩:∃A:Addr,(if c=j then(some ⟨b,off,none⟩:Option Addr)else some ⟨b,off+j*k,none⟩)=some A/\Hid (∀t u,news[t]? =some u->w.drew.cell? (A.add t)=some u):=by
  by_cases h:c=j
  ·refine⟨⟨b,off,none⟩,by simp[h],fun t u hu=> ?_⟩
   have h0:news.length=0:=by rw[hlen,show n-j=0 by omega,Nat.zero_mul]
   rw[ATM.1 h0]at hu;simp at hu
  ·refine⟨⟨b,off+j*k,none⟩,by simp[h],fun t u hu=> ?_⟩
   rw[oq,AP4]at hu;rw[Addr.add_eq,APN];exact yc _ u hu
 have s1:Hid (news.length=(n-j)*k):=hlen;have s2:Hid (∀u∈news,u.oneCell' =true):=fun u hu=>h1c u (by rw[oq]at hu;exact AR2 hu)
 have s3:Hid (∀t,t<news.length->(w.drew.cell? ⟨b,off+i*k+t,none⟩).isSome=true/\w.drew.frozen? ⟨b,off+i*k+t,none⟩=false):=by
  intro t ht;rw[hlen]at ht;rw[APN];exact sj _ (by omega)
 obtain⟨W1,hW1⟩:∃W1,W1=w.drew.setCells b (off+i*k) news:=⟨_,rfl⟩;have AZp:∀ty,(Builtin.clear_ #[ρ.t 24] ty #[.slice (some ⟨b,off+(i+(n-j))*k,none⟩) (n-(i+(n-j))) (c-(i+(n-j)))]).run P W1= .ok (.tuple #[]) (W1.setCells b (off+(i+(n-j))*k) Z):=fun ty=>by
  rw[show n-(i+(n-j))=j-i by omega];refine AAF L.t24 xm hz (by omega) hZ (fun t ht=> ?_) h1z;rw[hZl]at ht;have h0:=sj ((i+(n-j))*k+t) (by omega);rw[<-APN]at h0;rw[hW1];refine⟨isSome_setCells b _ _ _ (fun q hq=> ?_) _ h0.1,by rw[World.frozen?_setCells];exact h0.2⟩;rw[hlen]at hq;have:=(sj (i*k+q) (by omega)).1;rw[<-APN]at this;exact this
 have hW:Hid (W1=w.drew.setCells b (off+i*k) news):=hW1;have hic:i<=c:=by omega
 have hjc:j<=c:=by omega
 have hjn:(i:Int)<=(j:Int):=by omega
 have fin:∃W:World,W.heap=w.heap/\Grown w W/\W1.setCells b (off+(i+(n-j))*k) Z=(W.setCells b (off+i*k) news).setCells b (off+(i+(n-j))*k) Z:=⟨w.drew,rfl,⟨rfl,rfl,rfl,ALj _⟩,by rw[hW1]⟩;clear hW1 oq hlen e1 e2 e3 e4 e5 sj yc pV hZl
 go_enter L.f24,Body2.n24_ntmps ρ
 go_wp2_with fail
 go_region_law_o (refine step_append_room rfl (.tmp 22) (.tmp 25) (ρ.t 24) rfl (ρ.t 9) i0 k t24 xm hk b off i c (by simp[Act.eval,Act.put]) A (n-j) (c-j) news (by simp[Act.eval,Act.put]) s1.out AOM.out s2.out (by omega) s3.out ?_;rw[<-hW.out])
 go_wp2
 go_ret
 exact⟨rfl,fin⟩
end
end Go.Fw
end
section
namespace Go.Fw
open Go.M Go.Proofs Go.Shelf Go.RowKit Go.Lib
theorem FD.take{w:World}{S:Nat->Prop}{d:Nat}{r:Ty}{css:List (List Value)}{rows:List r.D}{Fs:List AAc}(h:FD w S d r css rows Fs)(n:Nat):FD w S d r (css.take n) (rows.take n) (Fs.take n):=by
 refine⟨by simp[h.1],by simp[h.2.1],fun c hc=>h.2.2.1 c (ATE hc),fun i cs y G a b c=> ?_⟩;rw[ARw]at a b c;split at a
 ·rename_i hi
  rw[AI9 hi]at b c;exact h.2.2.2 i cs y G a b c
 simp_all
theorem FD.drop{w:World}{S:Nat->Prop}{d:Nat}{r:Ty}{css:List (List Value)}{rows:List r.D}{Fs:List AAc}(h:FD w S d r css rows Fs)(n:Nat):FD w S d r (css.drop n) (rows.drop n) (Fs.drop n):=by
 refine⟨by simp[h.1],by simp[h.2.1],fun c hc=>h.2.2.1 c (AR2 hc),fun i cs y G a b c=> ?_⟩;rw[AP4]at a b c;exact h.2.2.2 _ cs y G a b c
theorem ADd{r:Ty}{css:List (List Value)}(hl:∀c∈css,c.length=r.n)(n:Nat)(hn:n<=css.length):css.flatten.take (n*r.n)=(css.take n).flatten:=by
 have h1:((css.take n).flatten).length=n*r.n:=by
  grind[Hr,List.mem_of_mem_take,List.length_take,Nat.min_eq_left]
 grind[List.take_append_drop,List.flatten_append,List.take_of_length_le]
theorem ADm{r:Ty}{css:List (List Value)}(hl:∀c∈css,c.length=r.n)(n:Nat)(hn:n<=css.length):css.flatten.drop (n*r.n)=(css.drop n).flatten:=by
 have h1:((css.take n).flatten).length=n*r.n:=by
  grind[Hr,List.mem_of_mem_take,List.length_take,Nat.min_eq_left]
 grind[List.take_append_drop,List.flatten_append,List.drop_eq_nil_of_le]
theorem fQ:∀{A B:List AAc},A.Sublist B->A.flatten.Sublist B.flatten
 |_,_,.slnil=> .slnil
 |_,_,.cons b h=>(fQ h).trans (List.sublist_append_right _ _)
 |_,_,.cons_cons b h=>(List.Sublist.refl b).append (fQ h)
theorem WX{Fs:List AAc}{p q:Nat}(hpq:p<=q):((Fs.take p++Fs.drop q).flatten).Sublist Fs.flatten:=by
 grind[List.drop_drop,List.drop_sublist,List.take_append_drop,fQ]
@[reducible] def ur (d:Nat) (r:Ty):Bc:=⟨[(0,.c (.ref 0)),(1,.c (.v (.int .i64))),(2,.c (.v (.int .i64)))],[.sl d r]⟩
@[reducible] def AAj (d:Nat) (r:Ty):Bc:=⟨[(0,.c (.ref 1))],[.gone,.sl d r]⟩
theorem wE{P:Program}{T:JR}{ρ:Ren}{nm:String}(hT:ES P T)(L:sa P ρ nm){r:Ty}(U0:T.NP (ρ.t 24) r=true)(hn0:0<r.n)(m:Nat):
  L4 P (ρ.f 24) ⟨ur (m+1) r,AAj (m+1) r,fun v=>(AFe v.1.2.1 v.1.2.2.1 v.2.1).map fun l=>(((),()),((),l,()))⟩:=by
 refine⟨by rfl,YA L.f24 L.n24 (by kernel_rfl),?_⟩;intro E w v args u ARb hB hS hg;obtain⟨⟨u0,p,q,u1⟩,rows,u2⟩:=v;obtain⟨⟨⟨⟩,⟨⟩⟩,⟨⟩,l,⟨⟩⟩:=u;simp only[AJN]at hg;obtain⟨l',oS,hg⟩:=hg;simp only[ANx,true_and,AO1]at hg;subst hg;unfold AFe at oS;split at oS
 case isFalse=>cases oS
 rename_i hc;obtain⟨hp0,hpq,hqn⟩:=hc;have hq0:(0:Int)<=q:=Int.le_trans hp0 hpq;obtain⟨p,rfl⟩:=AST hp0;obtain⟨q,rfl⟩:=AST hq0;simp only[AJT,AJL]at oS;have ALc:p<=q:=by omega
 have AKc:q<=rows.length:=by omega
 obtain⟨⟨a0,h0,x0⟩,⟨a1,h1,x1⟩,⟨a2,h2,x2⟩,_⟩:=hS;have IV:args= #[a0,a1,a2]:=by
  grind
 subst IV;have e0:E.Hi 0=a0:=by
  have:VR E w [Bx.sl (m+1) r rows] (.ref 0 []) a0:=x0;grind[VR,Cv,Option.some.inj]
 have e1:a1= .int .i64 (p:Int):=by
  have:VR E w [Bx.sl (m+1) r rows] (.v (.int .i64) (p:Int)) a1:=x1;simp only[VR,Rd,AL9,AO1]at this;simp_all
 have e2:a2= .int .i64 (q:Int):=by
  have:VR E w [Bx.sl (m+1) r rows] (.v (.int .i64) (q:Int)) a2:=x2;simp only[VR,Rd,AL9,AO1]at this;simp_all
 subst e1 e2;obtain⟨Fs,⟨hFl,hFb⟩,hSep⟩:=hB;obtain⟨F,rfl⟩:∃F,Fs=[F]:=by
  match Fs,hFl with
  |[F],_=>simp_all
 have AFZ:=hFb 0 (.sl (m+1) r rows) F rfl rfl;obtain⟨_,ho⟩:=AFZ;rw[e0]at ho;simp only[APT,ASi,AKX]at hSep;have ho0:=ho;obtain⟨ad,cap,css,Fs1,R1,rfl,hle,hd,hp1',hcase⟩:=qP ho;obtain⟨e,ti,hut,V9,hs1,hby,hrow⟩:=KR hT U0;obtain⟨i0,z,i1,i2,i3,i4,i5,oT⟩:=Xx hT V9 hrow;have he:e=ρ.t 9:=by
  have:=L.t24.symm.trans hut;simp_all
 subst he;rw[hs1]at i2;have z9:∀w,(Go.sizeOf (ρ.t 9)).run P w= .ok r.n w:=fun w=>by simp[sizeOf,typeInfo,i1,i2]
 have hzl:z.cells.size=r.n:=by rw[<-AQu,i5,Gr]
 have fin:∀{Q:Ending->World->Prop},Calls P (ρ.f 24) #[.slice ad rows.length cap,.int .i64 (p:Int),.int .i64 (q:Int)] w Q->
   (∀e w',Q e w'-> ∃v F',e= .returned v/\isSlice v=true/\Ow w' E.S (m+1) (.sl r) [v] l' F'/\F'.Nodup/\(∀c∈F',¬E.T c/\c<w'.heap.size)/\(∀c,E.T c->w'.heap[c]? =w.heap[c]?)/\Grown w w')->_:=fun h hq=>AB_ (by omega) hSep h hq
 by_cases hpe:p=q
 ·subst hpe
  have hl:rows=l':=by simp_all
  subst hl;refine fin (AFR (k:=r.n) L z9 ad rows.length cap p w AKc hle) fun e w' h=> ?_
  obtain⟨rfl,rfl⟩:=h;exact⟨_,F,rfl,rfl,ho0,hSep.nodup,fun c hc=>⟨hSep.free c hc,hSep.lt c hc⟩,fun _ _=>rfl,⟨rfl,rfl,rfl,ALj _⟩⟩
 have IQ:p<q:=by omega
 rcases hcase with⟨h0,_⟩|⟨b,o,arr,ty,fr,rfl,hb,K8,hu,rfl,fZ⟩
 ·omega
 have hbT: ¬E.T b:=hSep.free b (by simp);have AFn:b<w.heap.size:=hSep.lt b (by simp);have hnd:=AS4.1 hSep.nodup;have ABt:css.flatten.length=rows.length*r.n:=by rw[Hr hd.2.2.1,hd.1]
 have g1:(rows.length-q)*r.n=rows.length*r.n-q*r.n:=ASQ ..;have g2:(q-p)*r.n=q*r.n-p*r.n:=ASQ ..;have g3:q*r.n<=rows.length*r.n:=ALR _ AKc;have g4:p*r.n<=q*r.n:=ALR _ ALc;have g5:(p+(rows.length-q))*r.n=p*r.n+(rows.length-q)*r.n:=APH ..;have g6:rows.length*r.n<=cap*r.n:=ALR _ hle;have hzr:Ek r≠[]:=fun h=>by simp_all
 have hZ:(Builtin.zeroCells z.cells (q-p)).toList=(List.replicate (q-p) (Ek r)).flatten:=by
  grind[Builtin.zeroCells,Xc,Ek,Gr]
 have hZl:((List.replicate (q-p) (Ek r)).flatten).length=(q-p)*r.n:=by rw[FP,Gr]
 have hZ1:∀v∈(List.replicate (q-p) (Ek r)).flatten,v.oneCell' =true:=fun v hv=>by
  obtain⟨c,hc1,hc2⟩:=ANa.1 hv;rw[AO7 hc1]at hc2;exact mn (w:=w) (S:=E.S) (d:=0) (ga oT) v hc2
 have ky:=AGC (ρ:=ρ) L (i0:=i0) (z:=z) i1 i4 b o rows.length cap p q css.flatten _ w IQ AKc hle (by simp_all) fZ (by grind[WI,mk]) hd.one hZ (by simp_all) hZ1;refine fin ky fun e w' h=> ?_
 obtain⟨rfl,W,vg,hWg,rfl⟩:=h;rw[i2];have hA:(css.flatten.take (p*r.n)).length=p*r.n:=by grind
 have hB:(css.flatten.drop (q*r.n)).length=(rows.length-q)*r.n:=by simp_all
 have hbW:W.heap[b]? =some (.cells arr ty fr):=by simp_all
 have hcA:Be W b o (css.flatten.take (p*r.n)):=Be.heap (fun j v hj=>by
  rw[ARw]at hj;split at hj
  ·exact fZ j v hj
  simp_all) vg
 obtain⟨KT,q1,q2,q3⟩:=kM (B:=(List.replicate (q-p) (Ek r)).flatten) (V:=css.flatten.drop (q*r.n)) hbW (by omega) hcA;rw[hA,hB,<-g5]at q1 q3
 generalize oR:(W.setCells b (o+p*r.n) (css.flatten.drop (q*r.n))).setCells b (o+(p+(rows.length-q))*r.n) ((List.replicate (q-p) (Ek r)).flatten)=w' at q1 q3
 have eZ:∀c,c≠b->w'.heap[c]? =w.heap[c]?:=fun c hc=>by grind[DM]
 have hcT:∀c,E.T c->c≠b:=fun c hc e=>hbT (e▸hc)
 have hra:=((hd.take p).append (hd.drop q)).mono (w':=w') (S':=E.S) (fun _ h=>h) (fun c hc=>eZ c (hcT c (hSep.st c hc))) (fun c hc=>eZ c (fun e=>hnd.1 (e▸(WX ALc).subset hc)));rw[oS]at hra;have vd:l'.length=p+(rows.length-q):=by grind
 refine⟨_,b::(Fs1.take p++Fs1.drop q).flatten,rfl,rfl,?_,?_,fun c hc=> ?_,fun c hc=>eZ c (hcT c hc),?_⟩
 ·have pV:css.length=rows.length:=hd.1
  have:=kJ (cap:=cap) hra q1 (by
   rw[APJ,<-ADd hd.2.2.1 p (by omega),<-ADm hd.2.2.1 q (by omega)];intro j v hj;exact q3 j v (by grind)) (by omega) (by omega) (by simp_all)
  simp_all
 ·grind[List.nodup_cons,WX]
 ·have ASC:w'.heap.size=w.heap.size:=by grind[DW]
  rcases ALa.1 hc with rfl|hc
  ·simp_all
  ·have hm:c∈b::Fs1.flatten:=ATX _ ((WX ALc).subset hc)
   exact⟨hSep.free c hm,by rw[ASC];exact hSep.lt c hm⟩
 grind[Grown.trans',B8]
end Go.Fw
end
section
namespace Go.Fw
open Go.M Go.Proofs Go.Shelf Go.RowKit Go.Lib
section
variable{P:Program} {ρ:Ren} {nm:String} {fv:Func}
theorem Ru{t:TypeId}{n:Nat}(h:(P.info? t).map (·.size)=some n):∀w,(Go.sizeOf t).run P w= .ok n w:=fun w=>by
 obtain⟨i,hi,rfl⟩:=AJN.1 h;simp[sizeOf,typeInfo,hi]
theorem Z_{t:TypeId}{z:Value}(h:(P.info? t).bind (·.zero)=some z):∀w,(zeroValue t).run P w= .ok z w:=fun w=>by
 obtain⟨i,hi,hz⟩:=AJa.1 h;simp[zeroValue,typeInfo,hi,hz]
structure oG (P:Program) (ρ:Ren):Prop where
 t0:P.underlying (ρ.t 0)=some (TypeDesc.tuple #[])
 t3:P.underlying (ρ.t 3)=some (TypeDesc.int IntKind.i64)
 t4:P.underlying (ρ.t 4)=some (TypeDesc.bool)
 t24:P.underlying (ρ.t 24)=some (TypeDesc.slice (ρ.t 9))
 s0:(P.info? (ρ.t 0)).map (·.size)=some 1
 s3:(P.info? (ρ.t 3)).map (·.size)=some 1
 s4:(P.info? (ρ.t 4)).map (·.size)=some 1
 s24:(P.info? (ρ.t 24)).map (·.size)=some 1
 v0:(P.info? (ρ.t 0)).bind (·.zero)=some (Value.tuple #[])
 v3:(P.info? (ρ.t 3)).bind (·.zero)=some (Value.int IntKind.i64 0)
 v4:(P.info? (ρ.t 4)).bind (·.zero)=some (Value.bool false)
 v24:(P.info? (ρ.t 24)).bind (·.zero)=some (Value.slice none 0 0)
theorem oG.ins(h:oG P ρ)(hm:P.follows .mixedOrders=true)(f22:P.funcs[ρ.f 22]? =some { Body2.n22 ρ with name:=nm })(n22:(nm== "runtime.NumGoroutine")=false)(f29:P.funcs[ρ.f 29]? =some fv)(n29:(fv.name== "runtime.NumGoroutine")=false)
  (b29:fv.body.isNone=true) (e29:Extern.findNext fv=none) (x29:Extern.find fv=some (Extern.SlicesOverlaps.overlaps #[(ρ.t 24),(ρ.t 24)] #[(ρ.t 4)])):fG P ρ nm fv:=
 ⟨hm,f22,n22,f29,n29,b29,e29,x29,h.t0,run_isAgg_plain h.t0 rfl,Ru h.s0,Z_ h.v0,h.t3,run_isAgg_plain h.t3 rfl,Ru h.s3,Z_ h.v3,h.t4,run_isAgg_plain h.t4 rfl,Ru h.s4,Z_ h.v4,h.t24,run_isAgg_plain h.t24 rfl,Ru h.s24,Z_ h.v24⟩
theorem oG.del(h:oG P ρ)(hm:P.follows .mixedOrders=true)(f24:P.funcs[ρ.f 24]? =some { Body2.n24 ρ with name:=nm })(n24:(nm== "runtime.NumGoroutine")=false):sa P ρ nm:=
 ⟨hm,f24,n24,h.t0,run_isAgg_plain h.t0 rfl,Ru h.s0,Z_ h.v0,h.t3,run_isAgg_plain h.t3 rfl,Ru h.s3,Z_ h.v3,h.t4,run_isAgg_plain h.t4 rfl,Ru h.s4,Z_ h.v4,h.t24,run_isAgg_plain h.t24 rfl,Ru h.s24,Z_ h.v24⟩
@[reducible] def Jl (f22 f24 f29 f30 t24 t9:Nat):Ren:=⟨fun k=>if k=22 then f22 else if k=24 then f24 else if k=29 then f29 else if k=30 then f30 else k,fun k=>if k=24 then t24 else if k=9 then t9 else k,fun k=>k⟩
def AL3{T:JR}(hT:ES P T)(L:fG P ρ nm fv){r:Ty}{f:Nat}(hf:ρ.f 22=f)(U0:T.NP (ρ.t 24) r=true)(hr:(r.flat&&(decide (mk r=1)&&decide (0<r.n)))=true)(g:(uv r).Cu (Option (AA8 r).V))
  (hg:∀v:(uv r).V,(uv r).un g v=(z6 v.1.2.1 v.1.2.2.1 v.2.1).map fun l=>(((),()),((),l,()))):SP P:=
 ⟨f,⟨uv r,AA8 r,(uv r).un g⟩,by
  simp only[AJR,AJr]at hr;rw[funext hg,<-hf];exact xD hT L U0 hr.1 hr.2.1 hr.2.2⟩
def AW2{T:JR}(hT:ES P T)(L:sa P ρ nm){r:Ty}{f:Nat}(m:Nat)(hf:ρ.f 24=f)(U0:T.NP (ρ.t 24) r=true)(hr:decide (0<r.n)=true)(g:(ur (m+1) r).Cu (Option (AAj (m+1) r).V))
  (hg:∀v:(ur (m+1) r).V,(ur (m+1) r).un g v=(AFe v.1.2.1 v.1.2.2.1 v.2.1).map fun l=>(((),()),((),l,()))):SP P:=
 ⟨f,⟨ur (m+1) r,AAj (m+1) r,(ur (m+1) r).un g⟩,by
  rw[funext hg,<-hf];exact wE hT L U0 (of_decide_eq_true hr) m⟩
end
end Go.Fw
end
section
namespace Go.Fw
open Go
def ACm(n:Int):Option AAZ:=if-9223372036854775808<=n/\n<=9223372036854775807 then some (Go.Lib.itoa n)else none
def gf(s p:AAZ):Option Bool:=if s.length<4294967281 then some (Go.Lib.contains s p)else none
def oF(s p:AAZ):Option AAZ:=some (Go.Lib.trimPrefix s p)
def AIL(s p:AAZ):Option (List UInt8×List UInt8×Bool):=if s.length<4294967281 then some (Go.Lib.cut s p)else none
def xW(l:List AAZ)(x:AAZ):Option Int:=if l.length<=9223372036854775807 then some (Go.Lib.idxOfS (l.map fun y=>⟨y.toArray⟩) ⟨x.toArray⟩)else none
def Ed(s:AAZ)(most:Int):Option (Int×Bool):=
 if s.length<=1048576 then some (match Go.Lib.atoiAll s with
  | .ok v=>if 0<=v/\(s.length:Int)<=most/\Go.Lib.itoa v=s then(v,true)else(0,false)
  |_=>(0,false))else none
end Go.Fw
end
section
namespace Go.Fw
open Go.M Go.Proofs Go.Shelf Go.RowKit
theorem RX{P:Program}{f:Nat}{ins outs:List (Nat×XP)}{g:Bc.V ⟨ins,[]⟩->Option (Bc.V ⟨outs,[]⟩)}
  (DX:Qv.ok ⟨⟨ins,[]⟩,⟨outs,[]⟩,g⟩=true) (hen:∀args w,(callFunc f args).run P w= .ok (.enter f args) w)
  (h:∀(E:Env) (w:World) (x:GF.V ins) (args:Array Value) (u:GF.V outs),args.size=ins.length->(∀w',Below w.heap.size w w'->GI w')->Mm E w [] id ins x args.toList->g (x,())=some (u,())->
   Calls P f args w fun e w' => ∃v,e= .returned v/\Below w.heap.size w w'/\Mm E w' [] id outs u [v]):
  L4 P f ⟨⟨ins,[]⟩,⟨outs,[]⟩,g⟩:=by
 refine⟨DX,hen,fun E w v args u K8 hB hS hg=> ?_⟩;obtain⟨x,⟨⟩⟩:=v;obtain⟨u,⟨⟩⟩:=u;have hT:∀{w':World},Below w.heap.size w w'-> ∀c,E.T c->w'.heap[c]? =w.heap[c]?:=fun hb c hc=>hb.block c (hB.cI c hc)
 refine(h E w x args u K8 (fun w' hb=>hB.tu w' (hT hb)) hS hg).mono fun e w' hR=> ?_
 obtain⟨v,rfl,hb,hs⟩:=hR;exact⟨v,E,rfl,⟨fun _ h=>h,fun _ h=>h,fun _ h=> .inl h,fun _ h=> .inl h,hT hb,hb.os,hb.tape,hb.output,hb.size⟩,
  ⟨[],⟨rfl,fun k B F h=>by simp[I8.mk]at h⟩,by simp,by simp,by simp,hB.st,fun c hc=>AOX (hB.cI c hc) hb.size,hB.tu.mono (fun _ h=>h) (hT hb)⟩,hs,fun i hi=>by simp at hi⟩
theorem sR{w:World}(k:Nat)(os:Array Obj):Below w.heap.size w (Go.Sort.grow (w.drewN k) os):=
 ⟨rfl,rfl,rfl,by simp[Go.Sort.grow,World.drewN],fun c hc=>by
  show(w.heap++os)[c]? =_
  rw[Array.getElem?_append_left hc]⟩
theorem ASg{args:Array Value}{a:Value}(hl:args.size=1)(h:args.toList[0]? =some a):args= #[a]:=by
 apply Array.ext'
 match hq:args.toList,(show args.toList.length=1 from hl)with
 |[b],_=>rw[hq]at h;simp at h;simp[h]
theorem ux{args:Array Value}{a b:Value}(hl:args.size=2)(h:args.toList[0]? =some a)(h2:args.toList[1]? =some b):args= #[a,b]:=by
 apply Array.ext'
 match hq:args.toList,(show args.toList.length=2 from hl)with
 |[c,d],_=>rw[hq]at h h2;simp at h h2;simp[h,h2]
theorem AFf{E:Env}{w:World}{vw:List Bx}{n:Int}{v:Value}(h:XR E w vw (.c (.v (.int .i64) n)) v):v= .int .i64 n:=by
 have:VR E w vw (.v (.int .i64) n) v:=h;simp only[VR,Rd,AL9,AO1]at this;exact this.2
theorem aa{E:Env}{w:World}{vw:List Bx}{n:AAZ}{v:Value}(h:XR E w vw (.c (.v .str n)) v):v= .string ⟨n.toArray⟩:=by
 have:VR E w vw (.v .str n) v:=h;simp only[VR,Rd,AL9,AO1]at this;exact this.2
abbrev sI:XP:= .c (.v (.int .i64))
abbrev sS:XP:= .c (.v .str)
abbrev sB:XP:= .c (.v .bool)
theorem AAr{P:Program}{ρ:Ren}(L:LaysM.n171 P ρ)(hen:∀args w,(callFunc (ρ.f 171) args).run P w= .ok (.enter (ρ.f 171) args) w)(hgi:∀w,GI w->Go.Lib.TabIs P w "internal/strconv.uint64pow10" .u64 Go.Lib.pow10Tab):
  L4 P (ρ.f 171) ⟨⟨[(0,sI)],[]⟩,⟨[(0,sS)],[]⟩,fun v=>(ACm v.1.1).map fun l=>((l,()),())⟩:=by
 refine RX rfl hen fun E w x args u K8 hG hS hg=> ?_
 obtain⟨n,⟨⟩⟩:=x;obtain⟨⟨v0,h0,x0⟩,_⟩:=hS;obtain rfl:=ASg K8 h0;obtain rfl:=AFf x0;simp only[AJN]at hg;obtain⟨l,hl,hg⟩:=hg;unfold ACm at hl;split at hl
 case isFalse=>cases hl
 rename_i hc;cases hl;cases hg;refine(Any.strconv_Itoa L n hc.1 hc.2 w (hgi w (hG w (Below.refl _ _)))).mono fun e w' h=> ?_
 obtain⟨rfl,k,os,rfl⟩:=h;exact⟨_,rfl,sR k os,⟨_,rfl,rfl,rfl⟩,trivial⟩
theorem rU{P:Program}{ρ:Ren}(L:Lays.n144 P ρ)(hen:∀args w,(callFunc (ρ.f 144) args).run P w= .ok (.enter (ρ.f 144) args) w)(hgi:∀w:World,GI w-> ∃m,w.cell? ⟨ρ.g 1,0,none⟩=some (.int .i64 m)):
  L4 P (ρ.f 144) ⟨⟨[(0,sS),(1,sS)],[]⟩,⟨[(0,sB)],[]⟩,fun v=>(gf v.1.1 v.1.2.1).map fun l=>((l,()),())⟩:=by
 refine RX rfl hen fun E w x args u K8 hG hS hg=> ?_
 obtain⟨s,p,⟨⟩⟩:=x;obtain⟨⟨v0,h0,x0⟩,⟨v1,h1,x1⟩,_⟩:=hS;obtain rfl:=ux K8 h0 h1;obtain rfl:=aa x0;obtain rfl:=aa x1;simp only[AJN]at hg;obtain⟨l,hl,hg⟩:=hg;unfold gf at hl;split at hl
 case isFalse=>cases hl
 rename_i hc;cases hl;cases hg;obtain⟨m,hm⟩:=hgi w (hG w (Below.refl _ _));refine(Any.strings_Contains L ⟨s.toArray⟩ ⟨p.toArray⟩ m w (by simpa[ByteArray.size]using hc) hm).mono fun e w' h=> ?_
 obtain⟨rfl,rfl⟩:=h;exact⟨_,rfl,Below.refl _ _,⟨_,rfl,rfl,rfl⟩,trivial⟩
theorem mJ{P:Program}{ρ:Ren}(L:Lays.n101 P ρ)(hen:∀args w,(callFunc (ρ.f 101) args).run P w= .ok (.enter (ρ.f 101) args) w):
  L4 P (ρ.f 101) ⟨⟨[(0,sS),(1,sS)],[]⟩,⟨[(0,sS)],[]⟩,fun v=>(oF v.1.1 v.1.2.1).map fun l=>((l,()),())⟩:=by
 refine RX rfl hen fun E w x args u K8 hG hS hg=> ?_
 obtain⟨s,p,⟨⟩⟩:=x;obtain⟨⟨v0,h0,x0⟩,⟨v1,h1,x1⟩,_⟩:=hS;obtain rfl:=ux K8 h0 h1;obtain rfl:=aa x0;obtain rfl:=aa x1;cases hg;refine(Any.strings_TrimPrefix L ⟨s.toArray⟩ ⟨p.toArray⟩ w).mono fun e w' h=> ?_
 obtain⟨rfl,rfl⟩:=h;exact⟨_,rfl,Below.refl _ _,⟨_,rfl,rfl,rfl⟩,trivial⟩
theorem AEH{P:Program}{ρ:Ren}(L:Lays.n145 P ρ)(hen:∀args w,(callFunc (ρ.f 145) args).run P w= .ok (.enter (ρ.f 145) args) w)(hgi:∀w:World,GI w-> ∃m,w.cell? ⟨ρ.g 1,0,none⟩=some (.int .i64 m)):
  L4 P (ρ.f 145) ⟨⟨[(0,sS),(1,sS)],[]⟩,⟨[(0,.MA [.inl (.v .str),.inl (.v .str),.inl (.v .bool)])],[]⟩,fun v=>(AIL v.1.1 v.1.2.1).map fun l=>(((l.1,l.2.1,l.2.2,()),()),())⟩:=by
 refine RX rfl hen fun E w x args u K8 hG hS hg=> ?_
 obtain⟨s,p,⟨⟩⟩:=x;obtain⟨⟨v0,h0,x0⟩,⟨v1,h1,x1⟩,_⟩:=hS;obtain rfl:=ux K8 h0 h1;obtain rfl:=aa x0;obtain rfl:=aa x1;simp only[AJN]at hg;obtain⟨l,hl,hg⟩:=hg;unfold AIL at hl;split at hl
 case isFalse=>cases hl
 rename_i hc;cases hl;cases hg;obtain⟨m,hm⟩:=hgi w (hG w (Below.refl _ _));refine(Any.strings_Cut L ⟨s.toArray⟩ ⟨p.toArray⟩ m w (by simpa[ByteArray.size]using hc) hm).mono fun e w' h=> ?_
 obtain⟨rfl,n,rfl⟩:=h;exact⟨_,rfl,⟨rfl,rfl,rfl,ALj _,fun _ _=>rfl⟩,⟨_,rfl,_,rfl,⟨rfl,rfl⟩,⟨rfl,rfl⟩,⟨rfl,rfl⟩,trivial⟩,trivial⟩
theorem yI{P:Program}{ρ:Ren}(L:Lays.n109 P ρ)(hen:∀args w,(callFunc (ρ.f 109) args).run P w= .ok (.enter (ρ.f 109) args) w):
  L4 P (ρ.f 109) ⟨⟨[(0,.c (.sl false .str)),(1,sS)],[]⟩,⟨[(0,sI)],[]⟩,fun v=>(xW v.1.1 v.1.2.1).map fun l=>((l,()),())⟩:=by
 refine RX rfl hen fun E w x args u K8 hG hS hg=> ?_
 obtain⟨s,p,⟨⟩⟩:=x;obtain⟨⟨v0,h0,x0⟩,⟨v1,h1,x1⟩,_⟩:=hS;obtain rfl:=ux K8 h0 h1;obtain rfl:=aa x1;simp only[AJN]at hg;obtain⟨l,hl,hg⟩:=hg;unfold xW at hl;split at hl
 case isFalse=>cases hl
 rename_i hc;cases hl;cases hg;have x0':VR E w [] (.sl false .str s) v0:=x0;simp only[VR,Rd]at x0';obtain⟨a,cap,e,hle,hr⟩:=x0';simp only[AL9,AO1]at e;subst e;by_cases hn:s.length=0
 ·obtain rfl:=AMk hn
  refine(Any.slices_Index_string_empty L a cap ⟨p.toArray⟩ w).mono fun e w' h=> ?_
  obtain⟨rfl,rfl⟩:=h;exact⟨_,rfl,Below.refl _ _,⟨_,rfl,rfl,rfl⟩,trivial⟩
 rcases hr with hr|⟨b,o,rfl,_,hr⟩
 ·exact absurd hr hn
 refine(Any.slices_Index_string L b o s.length cap (s.map fun y=>⟨y.toArray⟩) ⟨p.toArray⟩ w (by simp) hc (fun j hj=> ?_)).mono fun e w' h=> ?_
 ·simp only[AQx]at hj
  obtain⟨cs,pV,hce,hcr⟩:=hr j _ (AJA hj);subst hcr;have:=hce 0 _ rfl;simp[Ty.n]at this;simp[this,hj]
 ·obtain⟨rfl,rfl⟩:=h
  refine⟨_,rfl,Below.refl _ _,⟨_,rfl,rfl,?_⟩,trivial⟩;rw[ANm (by simp)];rfl
theorem m_{P:Program}{f:Nat}(hen:∀args w,(callFunc f args).run P w= .ok (.enter f args) w)
  (hc:∀(s:ByteArray) (m:Int) (w:World),s.size<=1048576->(∀w',Below w.heap.size w w'->GI w')->
   Calls P f #[.string s,.int .i64 m] w fun e w' =>(∃a b,Ed s.data.toList m=some (a,b)/\e= .returned (.tuple #[.int .i64 a,.bool b]))/\Below w.heap.size w w'):
  L4 P f ⟨⟨[(0,sS),(1,sI)],[]⟩,⟨[(0,.MA [.inl (.v (.int .i64)),.inl (.v .bool)])],[]⟩,fun v=>(Ed v.1.1 v.1.2.1).map fun l=>(((l.1,l.2,()),()),())⟩:=by
 refine RX rfl hen fun E w x args u K8 hG hS hg=> ?_
 obtain⟨s,p,⟨⟩⟩:=x;obtain⟨⟨v0,h0,x0⟩,⟨v1,h1,x1⟩,_⟩:=hS;obtain rfl:=ux K8 h0 h1;obtain rfl:=aa x0;obtain rfl:=AFf x1;simp only[AJN]at hg;obtain⟨l,hl,hg⟩:=hg;have hs:s.length<=1048576:=by
  unfold Ed at hl;split at hl
  ·assumption
  ·cases hl
 cases hg;refine(hc ⟨s.toArray⟩ p w (by simpa[ByteArray.size]using hs) hG).mono fun e w' h=> ?_
 obtain⟨⟨a,b,e1,rfl⟩,hb⟩:=h;have e2:Ed s p=some (a,b):=by simpa using e1
 obtain rfl:=AS9 (hl.symm.trans e2);exact⟨_,rfl,hb,⟨_,rfl,_,rfl,⟨rfl,rfl⟩,⟨rfl,rfl⟩,trivial⟩,trivial⟩
def txP{P:Program}{f f':Nat}{i o:Bc}{F:i.V->Option o.V}(h:L4 P f' ⟨i,o,F⟩)(hf:f' =f)(g:i.Cu (Option o.V))(hg:∀v:i.V,i.un g v=F v):SP P:=
 ⟨f,⟨i,o,i.un g⟩,by rw[funext hg,<-hf];exact h⟩
end Go.Fw
end
section
namespace Go.Fw
def xe(s p:AAZ):Option (List AAZ):=if s.length<4294967281/\1<=p.length then some (Go.Lib.split s p)else none
end Go.Fw
end
section
namespace Go.Fw
open Go.M Go.Proofs Go.Shelf Go.RowKit
theorem AAH{P:Program}{ρ:Ren}(L:Lays.n146 P ρ)(hen:∀args w,(callFunc (ρ.f 146) args).run P w= .ok (.enter (ρ.f 146) args) w)
  (hgi:∀w:World,GI w-> ∃m,w.cell? ⟨ρ.g 1,0,none⟩=some (.int .i64 m)) (hi9:(P.info? (ρ.t 9)).map (fun i=>(i.zero,i.size,i.bytes))=some (some (.string ByteArray.empty),1,16)):
  L4 P (ρ.f 146) ⟨⟨[(0,sS),(1,sS)],[]⟩,⟨[(0,.c (.sl true .str))],[]⟩,fun v=>(xe v.1.1 v.1.2.1).map fun l=>((l,()),())⟩:=by
 refine⟨rfl,hen,fun E w v args u K8 hB hS hg=> ?_⟩;obtain⟨⟨s,p,⟨⟩⟩,⟨⟩⟩:=v;obtain⟨⟨l,⟨⟩⟩,⟨⟩⟩:=u;obtain⟨⟨v0,h0,x0⟩,⟨v1,h1,x1⟩,_⟩:=hS;obtain rfl:=ux K8 h0 h1;obtain rfl:=aa x0;obtain rfl:=aa x1;simp only[AJN]at hg;obtain⟨l',hl,hg⟩:=hg;unfold xe at hl;split at hl
 case isFalse=>cases hl
 rename_i hc;cases hl;cases hg;have hG:=hB.tu w fun _ _=>rfl
 obtain⟨m,hm⟩:=hgi w hG;refine(Any.strings_Split L hi9 ⟨s.toArray⟩ ⟨p.toArray⟩ m w (by simpa[ByteArray.size]using hc.1) hm (by simpa[ByteArray.size]using hc.2)).mono fun e w' h=> ?_
 obtain⟨rfl,hw⟩:=h;have hlen:=Go.Lib.splitB_all ⟨p.toArray⟩ (by simpa[ByteArray.size]using hc.2) 0 _ ⟨s.toArray⟩ rfl;have AQ7:(Go.Lib.splitB ⟨p.toArray⟩ 0 (Go.Lib.countB ⟨s.toArray⟩ ⟨p.toArray⟩) ⟨s.toArray⟩).map (·.data.toList)=Go.Lib.split s p:=Go.Lib.splitB_data _ _ _ _
 generalize Go.Lib.splitB ⟨p.toArray⟩ 0 (Go.Lib.countB ⟨s.toArray⟩ ⟨p.toArray⟩) ⟨s.toArray⟩=q at*
 have hq:(Go.Lib.split s p).length=Go.Lib.countB ⟨s.toArray⟩ ⟨p.toArray⟩+1:=by rw[<-AQ7,AQx,hlen]
 have IQ:∀c,E.T c->c<w.heap.size:=fun c hc=>hB.cI c hc
 have hold:∀c,E.T c->w'.heap[c]? =w.heap[c]?:=fun c hc=>by
  rw[hw]
  show(w.heap.push _)[c]? =_
  rw[Array.getElem?_push_lt (IQ c hc),Array.getElem?_eq_getElem (IQ c hc)]
 have AIY:w'.heap[w.heap.size]? =some (.cells (q.map Value.string).toArray (ρ.t 9)):=by
  rw[hw]
  show(w.heap.push _)[w.heap.size]? =_
  rw[Array.getElem?_push_size]
 have ASC:w'.heap.size=w.heap.size+1:=by rw[hw];exact Array.size_push ..
 refine⟨_,⟨E.Hg,E.Hi,fun c=>E.T c\/c=w.heap.size,fun c=>E.S c\/c=w.heap.size⟩,rfl,
  ⟨fun _ h=> .inl h,fun _ h=> .inl h,fun _ h=>h.elim .inl fun h=> .inr (.inr h),fun c h=>h.elim .inl fun h=> .inr fun ht=> ?_,hold,by rw[hw];rfl,by rw[hw];rfl,by rw[hw];rfl,by omega⟩,
  ⟨[],⟨rfl,fun k B F h=>by simp[I8.mk]at h⟩,by simp,by simp,by simp,fun c h=>h.elim (fun h=> .inl (hB.st c h)) .inr,fun c h=> ?_,hB.tu.mono (fun _ h=> .inl h) hold⟩,⟨⟨_,rfl,?_⟩,trivial⟩,fun i hi=>by simp at hi⟩
 ·have:=IQ c ht;omega
 ·rcases h with h|h
  ·have:=IQ c h
   show c<w'.heap.size
   omega
  ·show c<w'.heap.size
   omega
 show Rd w' (fun c=>E.S c\/c=w.heap.size) (.sl .str) [_] (Go.Lib.split s p)
 refine⟨some ⟨w.heap.size,0,none⟩,Go.Lib.countB ⟨s.toArray⟩ ⟨p.toArray⟩+1,by rw[hq],by rw[hq];exact ALj _,.inr ⟨w.heap.size,0,rfl,.inr rfl,fun i y hy=> ?_⟩⟩;have hy':(q[i]?).map (·.data.toList)=some y:=by rw[<-ANd,AQ7];exact hy
 obtain⟨z,z1,z2⟩:=AJN.1 hy';refine⟨[.string z],rfl,fun j v hj=> ?_,?_⟩
 ·have hj0:j=0:=by
   rcases j with _|j
   ·rfl
   ·simp at hj
  subst hj0;simp only[List.getElem?_cons_zero,AJL]at hj;subst hj;rw[show 0+i*Ty.n .str+0=i by simp[Ty.n]];simp[World.cell?,AIY,z1]
 ·show[Value.string z]=[.string ⟨y.toArray⟩]
  rw[<-z2]
end Go.Fw
end
section
namespace Go.Fw
open Go Go.RowKit
theorem tv{H:Type}{enc:TypeId×Value->H}{a:Assume}{C:Checked}{os:Os}{f:FuncId}{fn:Func}{s:ChangeSpec}{conds:List PathCond}{apart fresh handsOn again:Bool}{X:World->Array Value->Prop}
  (hX:∀(w w':World) (args:Array Value),w.heap=w'.heap->X w args->X w' args)
  (own:ownKnob C.prog.godebug=none) (started:os.Started) (ANr:C.prog.inits.idxOf? f=none) (hfn:C.prog.funcs[f]? =some fn)
  (witness:∃(w:World) (tape:Tape) (i:Input),w.os=os/\(w.forCall tape i).Shaped C.prog/\i.vars=[]/\Input.okWide C.prog (w.forCall tape i) .any w.heap.size f i/\
   ((s.pre enc C.prog fn conds apart (w.forCall tape i).memory i.args/\X (w.forCall tape i).memory i.args)/\sizedMet enc C.prog fn (OpenSpec.ofChange s) apart (w.forCall tape i).memory i.args)/\a.holds C.prog (lone (Frame.enter C.prog f i.args .normal) [] (w.forCall tape i)))
  (AF9:∀(W:World) (base:Nat) (args:Array Value) (ds gs:List (DataW H)) (before:List MemPlace),
   (∀(j:Nat) t v,fn.params[j]? =some t->args[j]? =some v->Value.okWide C.prog W .any base t v)->
   DataW.Whole enc C.prog fn.params.toList s.vars apart W args.toList ds gs before->X W args->W.ShapedOpen C.prog->
   Calls C.prog f args W fun e W' => ∃v,e= .returned v/\s.post enc C.prog fn apart fresh handsOn again W args v W'):
  ReturnsInHanded a C os f .any (fun w args=>(s.pre enc C.prog fn conds apart w args/\X w args)/\sizedMet enc C.prog fn (OpenSpec.ofChange s) apart w args) (s.post enc C.prog fn apart fresh handsOn again):=by
 refine returnsInHanded_of_calls own started ANr witness ?_
 intro w tape i _ hsh _ DX AXM _;obtain⟨_,_,_,fn',hfn',_,_,_,_,AEq⟩:=DX;have e:fn' =fn:=AS9 (hfn'.symm.trans hfn);subst e;obtain⟨⟨⟨ds,gs,before,hw,hc⟩,hx⟩,hz⟩:=AXM;have oR:=DataW.Whole.of_heap (w':=w.forCall tape i) (by rfl) hw;refine(AF9 (w.forCall tape i) w.heap.size i.args ds gs before AEq oR (hX _ _ _ (by rfl) hx) hsh).mono fun e W' ⟨v,he,hp⟩=> ?_
 subst he;exact ChangeSpec.post_blind hp
theorem sP{P:Program}{n nm:String}{d:DataW Unit}{r:List (String×DataW Unit)}{W:World}{g:Nat}{ti:TypeId}{ms:Array (String×TypeId)}
  (h:laidMet P ((n,.iface nm d)::r) W) (hg:P.globalNamed n=some g) (ht:(P.globals[g]?).map (·.type)=some ti) (hi:P.underlying ti=some (.interface ms)):eu W g:=by
 obtain⟨ps,⟨g0,t0,cs0,f0,p0,q0,hg0,xN,hv0,hd0,_,e0⟩,_,cA⟩:=h;obtain rfl:=AS9 (hg.symm.trans hg0);obtain rfl:=AS9 (ht.symm.trans xN);obtain⟨f1,u,v,e,_⟩:=Go.iface_of_trod hi hd0;refine⟨.iface u v,?_,.inr ⟨u,v,rfl⟩⟩;have:=World.var?_cell hg0 hv0 0
 have e':cs0= #[.iface u v]:=by
  obtain⟨l⟩:=cs0;simp only at e;rw[e]
 rw[e']at this;simpa using this
end Go.Fw
end
